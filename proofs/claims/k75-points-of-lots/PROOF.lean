import PyProof.Rows.All
import Wide.All
import OpenK.AllK
import Wide.FinOn
import HandS.ForMost
import HandS.Wide
import HandS.Gcd
import HandS.Exc
import HandS.Lambda
import HandS.IsInst
import HandS.Flow
import HandS.Iter
import HandS.Zip
import KE.GoesMore
import KE.GoesZip
import KE.GoesEnum
import HandS.Comp
import HandS.More
import HandS.Style
import HandS.WordsExc
import HandS.ExcOwn
import HandS.ExcSuper
import KE.OsGo
import KE.KExcSuper
import KE.KSuper
import HandS.HeadWalk
import HandS.ExcIs
import HandS.ExcField
import HandS.ExcValue
import KE.KDflt
import HandS.Star
import HandS.Nested
import PyProof.ReprRoads
import KE.KRevSl
import HandS.TupSets
import HandS.Defaults
import HandS.TryOnly
import HandS.EndTab
import HandS.HeadHook2
import PySem.Challenge.RW_roundsheld_k75_points_of_lots
set_option Elab.async false
set_option linter.all false
set_option maxRecDepth 100000
/-! Rh: a reader of trees: values as plain data (D), a small language of expressions and statements (X, S), what they evaluate to. -/
namespace Rh
open PySem L2

inductive D where
  | non
  | bl (b : Bool)
  | int (i : Int)
  | str (s : Str)
  | tup (l : List D)
  | lst (l : List D)
  | ins (c : Nat) (l : List D)
  | dic0
  | pen
  deriving Inhabited

mutual
def D.py : D → Option PyData
  | .non => some .none
  | .bl b => some (.bool b)
  | .int i => some (.int i)
  | .str s => some (.str s)
  | .tup l => (D.pys l).map .tuple
  | .lst l => (D.pys l).map .list
  | .ins _ _ => none
  | .dic0 => none
  | .pen => none
def D.pys : List D → Option (List PyData)
  | [] => some []
  | d :: r => match D.py d with
    | some x => (match D.pys r with
      | some xs => some (x :: xs)
      | none => none)
    | none => none
end

/-- truth -/
def D.tru : D → Option Bool
  | .non => some false
  | .bl b => some b
  | .int i => some (i != 0)
  | .str s => if s.length ≤ sizeLine then some (s.length != 0) else none
  | .tup l => some (!l.isEmpty)
  | .lst l => some (!l.isEmpty)
  | .ins _ _ => none
  | .dic0 => some false
  | .pen => none

/-- the pen: its cells, the index of the next one, the rest of a great one -/
structure Pn where
  cells : List Int
  at_ : Int
  rest : Int

inductive Out (α : Type) where
  | ok (a : α) (w : Pn)
  | ex (c : Nat) (d : D) (w : Pn)

def bnd {α β : Type} (m : Option (Out α)) (f : α → Pn → Option (Out β)) : Option (Out β) := match m with
  | some (.ok a w) => f a w
  | some (.ex c d w) => some (.ex c d w)
  | none => none
@[simp] theorem bnd_ok {α β : Type} {a : α} {w : Pn} {f : α → Pn → Option (Out β)} : bnd (some (.ok a w)) f = f a w := rfl
@[simp] theorem bnd_ex {α β : Type} {c : Nat} {d : D} {w : Pn} {f : α → Pn → Option (Out β)} : bnd (some (.ex c d w)) f = some (.ex c d w) := rfl
@[simp] theorem bnd_none {α β : Type} {f : α → Pn → Option (Out β)} : bnd none f = none := rfl

/-- a slot of a def: a value, a list that the def alone changes -/
inductive Sl where
  | val (d : D)
  | chg (l : List D)
abbrev En := List (Option Sl)

inductive Bo where
  | add | sub | mul | fdiv | mod
inductive Co where
  | eq | ne | lt | le | gt | ge | isN | notN
/-- built-ins by values -/
inductive Bu where
  | len | tuple | list | all | gcd | abs | int | sum | max | min | repr | lenSet
/-- what isinstance asks -/
inductive Cl where
  | int | bool | listTuple | cls (yes no : List Nat)

/-- targets -/
inductive Tg where
  | nm (i : Nat)
  | tp (l : List Nat)

/-! ### operations on data -/
def mulOk (i j : Int) : Bool := decide (i.natAbs.log2 + j.natAbs.log2 < 1000000)
def divOk (j : Int) : Bool := decide (0 < j) && decide (j.natAbs.log2 < 9000)
def small (n : Nat) : Bool := decide (n ≤ sizeLine)

def boF : Bo → D → D → Option D
  | .add, .int i, .int j => some (.int (i + j))
  | .add, .lst a, .lst b => if small (a.length + b.length) then some (.lst (a ++ b)) else none
  | .sub, .int i, .int j => some (.int (i - j))
  | .mul, .int i, .int j => if mulOk i j then some (.int (i * j)) else none
  | .mul, .lst a, .int j => if decide (0 ≤ j) && decide (j < 1000000) && small (a.length * j.toNat) then some (.lst (List.replicate j.toNat a).flatten) else none
  | .fdiv, .int i, .int j => if divOk j then some (.int (i / j)) else none
  | .mod, .int i, .int j => if decide (0 < j) then some (.int (i % j)) else none
  | _, _, _ => none

def eqF (a b : D) : Option Bool := match D.py a with
  | some x => (match D.py b with
    | some y => if SeqAt.shaped x && SeqAt.shaped y then some (PyData.eqv x y) else none
    | none => none)
  | none => none

def D.isNon : D → Bool
  | .non => true
  | _ => false

def coF : Co → D → D → Option D
  | .eq, a, b => (eqF a b).map .bl
  | .ne, a, b => (eqF a b).map fun k => .bl (!k)
  | .lt, .int i, .int j => some (.bl (decide (i < j)))
  | .le, .int i, .int j => some (.bl (decide (i ≤ j)))
  | .gt, .int i, .int j => some (.bl (decide (j < i)))
  | .ge, .int i, .int j => some (.bl (decide (j ≤ i)))
  | .isN, a, .non => some (.bl a.isNon)
  | .notN, a, .non => some (.bl (!a.isNon))
  | _, _, _ => none

def seqOf : D → Option (List D)
  | .tup l => some l
  | .lst l => some l
  | _ => none

def idxF : D → D → Option D
  | .tup l, .int i => atI l i
  | .lst l, .int i => atI l i
  | _, _ => none

def boolsOf : List D → Option (List Bool)
  | [] => some []
  | .bl b :: r => (boolsOf r).map (b :: ·)
  | _ :: _ => none
def intsOf : List D → Option (List Int)
  | [] => some []
  | .int i :: r => (intsOf r).map (i :: ·)
  | _ :: _ => none
/-- tuples of ints -/
def rowsOf : List D → Option (List (List Int))
  | [] => some []
  | .tup l :: r => (match intsOf l with
    | some x => (rowsOf r).map (x :: ·)
    | none => none)
  | _ :: _ => none

def maxL : List Int → Option Int
  | [] => none
  | a :: r => some (r.foldl (fun m x => if m < x then x else m) a)
def minL : List Int → Option Int
  | [] => none
  | a :: r => some (r.foldl (fun m x => if x < m then x else m) a)

mutual
/-- the text that repr gives -/
def D.rep : D → Option String
  | .non => some "None"
  | .bl b => some (if b then "True" else "False")
  | .int i => if decide (i.natAbs.log2 < 1920) then some (toString i) else none
  | .str _ => none
  | .tup l => (match D.reps l with
    | some [x] => some ("(" ++ x ++ ",)")
    | some xs => some ("(" ++ String.intercalate ", " xs ++ ")")
    | none => none)
  | .lst l => (match D.reps l with
    | some xs => some ("[" ++ String.intercalate ", " xs ++ "]")
    | none => none)
  | .ins _ _ => none
  | .dic0 => none
  | .pen => none
def D.reps : List D → Option (List String)
  | [] => some []
  | d :: r => match D.rep d with
    | some x => (match D.reps r with
      | some xs => some (x :: xs)
      | none => none)
    | none => none
end

def buF : Bu → List D → Option D
  | .len, [.tup l] => some (.int l.length)
  | .len, [.lst l] => some (.int l.length)
  | .tuple, [.tup l] => some (.tup l)
  | .tuple, [.lst l] => some (.tup l)
  | .list, [.tup l] => some (.lst l)
  | .list, [.lst l] => some (.lst l)
  | .all, [.lst l] => (boolsOf l).map fun bs => .bl (bs.all id)
  | .gcd, [.int i, .int j] => some (.int ((Nat.gcd i.natAbs j.natAbs : Nat) : Int))
  | .abs, [.int i] => some (.int (if i < 0 then -i else i))
  | .int, [.int i] => some (.int i)
  | .int, [.bl b] => some (.int (if b then 1 else 0))
  | .sum, [.lst l] => (intsOf l).map fun ns => .int ns.sum
  | .max, [.lst l] => (intsOf l).bind fun ns => (maxL ns).map .int
  | .min, [.lst l] => (intsOf l).bind fun ns => (minL ns).map .int
  | _, _ => none

def isiF : D → Cl → Option Bool
  | .ins c _, .cls yes no => if yes.contains c then some true else if no.contains c then some false else none
  | .pen, _ => none
  | _, .cls _ _ => some false
  | .int _, .int => some true
  | .bl _, .int => some true
  | _, .int => some false
  | .bl _, .bool => some true
  | _, .bool => some false
  | .tup _, .listTuple => some true
  | .lst _, .listTuple => some true
  | _, .listTuple => some false

def slot (σ : En) (i : Nat) : Option D := match σ[i]? with
  | some (some (.val d)) => some d
  | _ => none
def mslot (σ : En) (i : Nat) : Option (List D) := match σ[i]? with
  | some (some (.chg l)) => some l
  | _ => none
def wipeE (σ : En) : List Nat → En
  | [] => σ
  | i :: r => (wipeE σ r).set i none

def setTs (σ : En) : List Nat → List D → Option En
  | [], [] => some σ
  | i :: r, d :: s => setTs (σ.set i (some (.val d))) r s
  | _, _ => none
def setT (σ : En) : Tg → D → Option En
  | .nm i, d => some (σ.set i (some (.val d)))
  | .tp is_, .tup l => setTs σ is_ l
  | _, _ => none


/-! ### what expressions, arguments, statements evaluate to -/
abbrev XF := En → Pn → Option (Out D)
abbrev AF := En → Pn → Option (Out (List D))
abbrev FnF := List D → Pn → Option (Out D)
inductive Fl where
  | nx (σ : En)
  | rt (d : D)
  | bk (σ : En)
  | ct (σ : En)
abbrev SF := En → Pn → Option (Out Fl)

def opt {α : Type} (o : Option α) (w : Pn) : Option (Out α) := match o with
  | some a => some (.ok a w)
  | none => none
@[simp] theorem opt_some {α : Type} {a : α} {w : Pn} : opt (some a) w = some (.ok a w) := rfl
@[simp] theorem opt_none {α : Type} {w : Pn} : opt (none : Option α) w = none := rfl

def xvar (i : Nat) : XF := fun σ w => opt (slot σ i) w
def xcst (d : D) : XF := fun _ w => some (.ok d w)
def xbin (o : Bo) (a b : XF) : XF := fun σ w => bnd (a σ w) fun x w => bnd (b σ w) fun y w => opt (boF o x y) w
def negF : D → Option D
  | .int i => some (.int (-i))
  | _ => none
def xneg (a : XF) : XF := fun σ w => bnd (a σ w) fun x w => opt (negF x) w
def xcmp (o : Co) (a b : XF) : XF := fun σ w => bnd (a σ w) fun x w => bnd (b σ w) fun y w => opt (coF o x y) w
/-- a test -/
abbrev TF := En → Pn → Option (Out Bool)
def xtru (a : XF) : TF := fun σ w => bnd (a σ w) fun x w => opt x.tru w
def xchn (o p : Co) (a b c : XF) : XF := fun σ w => bnd (a σ w) fun x w => bnd (b σ w) fun y w => bnd (opt (coF o x y) w) fun z w => match z with
  | .bl true => bnd (c σ w) fun u w => opt (coF p y u) w
  | .bl false => some (.ok (.bl false) w)
  | _ => none
def xand (a b : XF) : XF := fun σ w => bnd (a σ w) fun x w => bnd (opt x.tru w) fun t w => if t = true then b σ w else some (.ok x w)
def xor (a b : XF) : XF := fun σ w => bnd (a σ w) fun x w => bnd (opt x.tru w) fun t w => if t = true then some (.ok x w) else b σ w
def xnot (a : XF) : XF := fun σ w => bnd (a σ w) fun x w => bnd (opt x.tru w) fun t w => some (.ok (.bl (!t)) w)
/-- tests by tests -/
def tand (a b : TF) : TF := fun σ w => bnd (a σ w) fun t w => if t = true then b σ w else some (.ok false w)
def tor (a b : TF) : TF := fun σ w => bnd (a σ w) fun t w => if t = true then some (.ok true w) else b σ w
def tnot (a : TF) : TF := fun σ w => bnd (a σ w) fun t w => some (.ok (!t) w)
def xife (c : TF) (a b : XF) : XF := fun σ w => bnd (c σ w) fun t w => if t = true then a σ w else b σ w

def anil : AF := fun _ w => some (.ok [] w)
def acons (a : XF) (r : AF) : AF := fun σ w => bnd (a σ w) fun x w => bnd (r σ w) fun xs w => some (.ok (x :: xs) w)
def xcall (f : FnF) (as : AF) : XF := fun σ w => bnd (as σ w) fun ds w => f ds w
/-- keywords: the values by place -/
def xcallK (f : FnF) (g : List D → List D → List D) (as ks : AF) : XF := fun σ w => bnd (as σ w) fun ds w => bnd (ks σ w) fun es w => f (g ds es) w
def xbui (b : Bu) (as : AF) : XF := fun σ w => bnd (as σ w) fun ds w => opt (buF b ds) w
def xisi (a : XF) (c : Cl) : XF := fun σ w => bnd (a σ w) fun x w => opt ((isiF x c).map .bl) w
def fldF (n : Nat) : D → Option D
  | .ins _ l => l[n]?
  | _ => none
def xfld (a : XF) (c n : Nat) : XF := fun σ w => bnd (a σ w) fun x w => opt (match x with
  | .ins k l => if k = c then l[n]? else none
  | _ => none) w
def xidx (a b : XF) : XF := fun σ w => bnd (a σ w) fun x w => bnd (b σ w) fun y w => opt (idxF x y) w
def xtup (as : AF) : XF := fun σ w => bnd (as σ w) fun ds w => if small ds.length then some (.ok (.tup ds) w) else none
def xlst (as : AF) : XF := fun σ w => bnd (as σ w) fun ds w => if small ds.length then some (.ok (.lst ds) w) else none
def xdic : XF := fun _ w => some (.ok .dic0 w)
/-- of a list that the def changes: its length, an item, a tuple of it -/
def xlenM (i : Nat) : XF := fun σ w => opt ((mslot σ i).map fun l => .int l.length) w
def xidxM (i : Nat) (b : XF) : XF := fun σ w => bnd (opt (mslot σ i) w) fun l w => bnd (b σ w) fun y w => opt (idxF (.lst l) y) w
def xtupM (i : Nat) : XF := fun σ w => opt ((mslot σ i).map .tup) w

/-- what a loop walks -/
def srcSeq (a : XF) : AF := fun σ w => bnd (a σ w) fun x w => opt (seqOf x) w
def bound62 (i : Int) : Bool := decide (-(2 ^ 62) ≤ i) && decide (i < 2 ^ 62)
def srcRng1 (a : XF) : AF := fun σ w => bnd (a σ w) fun x w => match x with
  | .int j => if bound62 j then some (.ok ((List.range j.toNat).map fun i => .int (0 + (i : Nat))) w) else none
  | _ => none
def enumL (l : List D) : List D := (l.zipIdx).map fun p => .tup [.int p.2, p.1]
def srcEnum (a : XF) : AF := fun σ w => bnd (a σ w) fun x w => opt ((seqOf x).map enumL) w
def zipL (a b : List D) : List D := (a.zip b).map fun p => .tup [p.1, p.2]
def srcZip (a b : XF) : AF := fun σ w => bnd (a σ w) fun x w => bnd (b σ w) fun y w => opt (match seqOf x, seqOf y with
  | some l, some m => some (zipL l m)
  | _, _ => none) w

def compL (σ : En) (own : List Nat) (t : Tg) (c : TF) (e : XF) : List D → List D → Pn → Option (Out (List D))
  | [], acc, w => some (.ok acc w)
  | d :: r, acc, w => match setT (wipeE σ own) t d with
    | some τ => bnd (c τ w) fun k w => if k = true then (bnd (e τ w) fun y w => if small (acc.length + 1) then compL σ own t c e r (acc ++ [y]) w else none) else compL σ own t c e r acc w
    | none => none
def noEx {α : Type} (m : Option (Out α)) : Option (Out α) := match m with
  | some (.ex _ _ _) => none
  | m => m
def tyes : TF := fun _ w => some (.ok true w)
def xcomp (own : List Nat) (t : Tg) (src : AF) (c : TF) (e : XF) : XF := fun σ w => bnd (src σ w) fun l w => bnd (noEx (compL σ own t c e l [] w)) fun ds w => some (.ok (.lst ds) w)

def sexpr (a : XF) : SF := fun σ w => bnd (a σ w) fun _ w => some (.ok (.nx σ) w)
def sasg (t : Tg) (a : XF) : SF := fun σ w => bnd (a σ w) fun x w => opt ((setT σ t x).map .nx) w
def sret (a : XF) : SF := fun σ w => bnd (a σ w) fun x w => some (.ok (.rt x) w)
def sretM (i : Nat) : SF := fun σ w => opt ((mslot σ i).map fun l => .rt (.lst l)) w
def spass : SF := fun σ w => some (.ok (.nx σ) w)
def srais (c : Nat) (a : XF) : SF := fun σ w => bnd (a σ w) fun x w => some (.ex c x w)
def snil : SF := spass
def scons (a b : SF) : SF := fun σ w => bnd (a σ w) fun f w => match f with
  | .nx τ => b τ w
  | f => some (.ok f w)
def site (c : TF) (a b : SF) : SF := fun σ w => bnd (c σ w) fun t w => if t = true then a σ w else b σ w
def saug (i : Nat) (a : XF) : SF := fun σ w => bnd (opt (slot σ i) w) fun x w => bnd (a σ w) fun y w => match x, y with
  | .int u, .int v => some (.ok (.nx (σ.set i (some (.val (.int (u + v)))))) w)
  | _, _ => none
def sapp (i : Nat) (a : XF) : SF := fun σ w => bnd (opt (mslot σ i) w) fun l w => bnd (a σ w) fun y w => if small (l.length + 1) then some (.ok (.nx (σ.set i (some (.chg (l ++ [y]))))) w) else none
def sins (i : Nat) (a b : XF) : SF := fun σ w => bnd (opt (mslot σ i) w) fun l w => bnd (a σ w) fun x w => bnd (b σ w) fun y w => match x with
  | .int j => if decide (0 ≤ j) && decide (j ≤ l.length) && small (l.length + 1) then some (.ok (.nx (σ.set i (some (.chg (l.insertIdx j.toNat y))))) w) else none
  | _ => none
/-- names that are stored at once: a value, or a new empty list that the def changes -/
inductive Pa where
  | v (a : XF)
  | m
def setP (σ : En) : List Nat → List Sl → Option En
  | [], [] => some σ
  | i :: r, d :: s => setP (σ.set i (some d)) r s
  | _, _ => none
def pargs : List Pa → En → Pn → Option (Out (List Sl))
  | [], _, w => some (.ok [] w)
  | .v a :: r, σ, w => bnd (a σ w) fun x w => bnd (pargs r σ w) fun xs w => some (.ok (.val x :: xs) w)
  | .m :: r, σ, w => bnd (pargs r σ w) fun xs w => some (.ok (.chg [] :: xs) w)
def spar (is_ : List Nat) (as : List Pa) : SF := fun σ w => bnd (pargs as σ w) fun xs w => opt ((setP σ is_ xs).map .nx) w
def snew (i : Nat) : SF := fun σ w => some (.ok (.nx (σ.set i (some (.chg [])))) w)
def forL (t : Tg) (b : SF) : List D → En → Pn → Option (Out Fl)
  | [], σ, w => some (.ok (.nx σ) w)
  | d :: r, σ, w => match setT σ t d with
    | some τ => bnd (b τ w) fun f w => match f with
      | .nx τ => forL t b r τ w
      | .ct τ => forL t b r τ w
      | .bk τ => some (.ok (.nx τ) w)
      | .rt d => some (.ok (.rt d) w)
    | none => none
def sfor (t : Tg) (src : AF) (b : SF) : SF := fun σ w => bnd (src σ w) fun l w => forL t b l σ w
def whlN (c : TF) (b : SF) : Nat → En → Pn → Option (Out Fl)
  | 0, _, _ => none
  | n + 1, σ, w => bnd (c σ w) fun t w => if t = true then (bnd (b σ w) fun f w => match f with
      | .nx τ => whlN c b n τ w
      | .ct τ => whlN c b n τ w
      | .bk τ => some (.ok (.nx τ) w)
      | .rt d => some (.ok (.rt d) w)) else some (.ok (.nx σ) w)
def swhl (n : Nat) (c : TF) (b : SF) : SF := fun σ w => whlN c b n σ w
/-- a def of n names -/
def startE (n : Nat) (ds : List D) : En := ds.map (fun d => some (.val d)) ++ List.replicate (n - ds.length) none
def fnF (np n : Nat) (body : SF) : FnF := fun ds w => if ds.length = np then (bnd (body (startE n ds) w) fun f w => match f with
  | .rt d => some (.ok d w)
  | .nx _ => some (.ok .non w)
  | _ => none) else none
end Rh
set_option Elab.async false
set_option linter.all false
set_option maxRecDepth 100000
set_option maxHeartbeats 1000000
/-! Rh: how data lie in the heap; what a reading by data asks of the layer's readings. -/
namespace Rh
open PySem L2 PySem.Spec PyProof.Rows

/-- the text's classes: where they stand, their attributes in order; the exceptions' classes and their one field -/
structure Tx where
  ca : Nat → Addr
  fnm : Nat → List Str
  ea : Nat → Addr
  ef : Nat → Str
  tb : List (Addr × Str)

mutual
inductive Rp (K : PySem.W.Frag) (T : Tx) (p : Addr) (F : Hp) : V → D → Prop
  | non : Rp K T p F .non .non
  | bl (b : Bool) : Rp K T p F (.bl b) (.bl b)
  | int (i : Int) : Rp K T p F (.int i) (.int i)
  | str (x : Str) : Rp K T p F (.str x) (.str x)
  | tup {a : Addr} {xs : List V} {ds : List D} : SqT K F a xs → Rps K T p F xs ds → Rp K T p F (.ref a) (.tup ds)
  | lst {a : Addr} {xs : List V} {ds : List D} : F a = some (.lst xs) → Rps K T p F xs ds → Rp K T p F (.ref a) (.lst ds)
  | ins {a dx : Addr} {c : Nat} {fs : List (Str × V)} {ds : List D} : F a = some (.ins (T.ca c) dx fs) → fs.map (·.1) = T.fnm c → Rps K T p F (fs.map (·.2)) ds → Rp K T p F (.ref a) (.ins c ds)
  | dic0 {a : Addr} : F a = some (.dK []) → Rp K T p F (.ref a) .dic0
  | pen : Rp K T p F (.ref p) .pen
inductive Rps (K : PySem.W.Frag) (T : Tx) (p : Addr) (F : Hp) : List V → List D → Prop
  | nil : Rps K T p F [] []
  | cons {v : V} {vs : List V} {d : D} {ds : List D} : Rp K T p F v d → Rps K T p F vs ds → Rps K T p F (v :: vs) (d :: ds)
end

def Ext (F F' : Hp) : Prop := ∀ b o, F b = some o → F' b = some o
theorem Ext.refl (F : Hp) : Ext F F := fun _ _ h => h
theorem Ext.trans {F F1 F2 : Hp} (a : Ext F F1) (b : Ext F1 F2) : Ext F F2 := fun c o h => b c o (a c o h)
theorem Ext.t {K : PySem.W.Frag} {F F' : Hp} {a : Addr} {xs : List V} (e : Ext F F') (h : SqT K F a xs) : SqT K F' a xs := by
  rcases h with (h | ⟨o, h⟩) | h
  · exact .inl (.inl (e _ _ h))
  · exact .inl (.inr ⟨o, e _ _ h⟩)
  · exact .inr h
section
variable {K : PySem.W.Frag} {T : Tx} {p : Addr} {F F' : Hp}
mutual
theorem Rp.mono (e : Ext F F') : ∀ {v : V} {d : D}, Rp K T p F v d → Rp K T p F' v d
  | _, _, .non => .non
  | _, _, .bl b => .bl b
  | _, _, .int i => .int i
  | _, _, .str x => .str x
  | _, _, .tup h r => .tup (e.t h) (Rps.mono e r)
  | _, _, .lst h r => .lst (e _ _ h) (Rps.mono e r)
  | _, _, .ins h n r => .ins (e _ _ h) n (Rps.mono e r)
  | _, _, .dic0 h => .dic0 (e _ _ h)
  | _, _, .pen => .pen
theorem Rps.mono (e : Ext F F') : ∀ {vs : List V} {ds : List D}, Rps K T p F vs ds → Rps K T p F' vs ds
  | _, _, .nil => .nil
  | _, _, .cons h r => .cons (Rp.mono e h) (Rps.mono e r)
end
theorem Rps.length : ∀ {vs : List V} {ds : List D}, Rps K T p F vs ds → vs.length = ds.length
  | _, _, .nil => rfl
  | _, _, .cons _ r => by rw [List.length_cons, List.length_cons, Rps.length r]
theorem Rps.get : ∀ {vs : List V} {ds : List D} {i : Nat} {d : D}, Rps K T p F vs ds → ds[i]? = some d → ∃ v, vs[i]? = some v ∧ Rp K T p F v d
  | _, _, _, _, .nil, e => by simp at e
  | _, _, 0, _, .cons h _, e => by simp at e; subst e; exact ⟨_, rfl, h⟩
  | _, _, i + 1, _, .cons _ r, e => by
    obtain ⟨v, h1, h2⟩ := Rps.get (i := i) r (by simpa using e)
    exact ⟨v, by simpa using h1, h2⟩
theorem Rps.getV : ∀ {vs : List V} {ds : List D} {i : Nat} {v : V}, Rps K T p F vs ds → vs[i]? = some v → ∃ d, ds[i]? = some d ∧ Rp K T p F v d
  | _, _, _, _, .nil, e => by simp at e
  | _, _, 0, _, .cons h _, e => by simp at e; subst e; exact ⟨_, rfl, h⟩
  | _, _, i + 1, _, .cons _ r, e => by
    obtain ⟨v, h1, h2⟩ := Rps.getV (i := i) r (by simpa using e)
    exact ⟨v, by simpa using h1, h2⟩
theorem Rps.append : ∀ {vs ws : List V} {ds es : List D}, Rps K T p F vs ds → Rps K T p F ws es → Rps K T p F (vs ++ ws) (ds ++ es)
  | _, _, _, _, .nil, s => s
  | _, _, _, _, .cons h r, s => .cons h (Rps.append r s)
theorem Rps.atI {vs : List V} {ds : List D} {i : Int} {d : D} (h : Rps K T p F vs ds) (e : L2.atI ds i = some d) : ∃ v, L2.atI vs i = some v ∧ Rp K T p F v d := by
  unfold L2.atI at *
  rw [h.length]
  cases q : ixN ds.length i with
  | none => rw [q] at e; cases e
  | some j =>
    rw [q] at e
    exact h.get e
theorem Rps.insertIdx : ∀ {vs : List V} {ds : List D} (n : Nat) {v : V} {d : D}, Rps K T p F vs ds → Rp K T p F v d → Rps K T p F (vs.insertIdx n v) (ds.insertIdx n d)
  | _, _, 0, _, _, h, r => by simpa using Rps.cons r h
  | _, _, n + 1, _, _, .nil, r => by simpa using Rps.nil
  | _, _, n + 1, _, _, .cons h t, r => by
    rw [List.insertIdx_succ_cons, List.insertIdx_succ_cons]
    exact .cons h (Rps.insertIdx n t r)
theorem Rps.rep {vs : List V} {ds : List D} (h : Rps K T p F vs ds) : ∀ n : Nat, Rps K T p F (List.replicate n vs).flatten (List.replicate n ds).flatten
  | 0 => by simpa using Rps.nil
  | n + 1 => by
    rw [List.replicate_succ, List.replicate_succ, List.flatten_cons, List.flatten_cons]
    exact h.append (Rps.rep h n)
theorem Rps.nilD {vs : List V} (h : Rps K T p F vs []) : vs = [] := by cases h; rfl
theorem Rps.ints : ∀ {vs : List V} {ds : List D} {ns : List Int}, Rps K T p F vs ds → intsOf ds = some ns → vs = ns.map V.int
  | _, _, _, .nil, e => by cases e; rfl
  | _, _, _, .cons (d := d) h r, e => by
    cases h with
    | int i =>
      simp only [intsOf, Option.map_eq_some_iff] at e
      obtain ⟨ms, e1, rfl⟩ := e
      rw [Rps.ints r e1]
      rfl
    | _ => simp [intsOf] at e
theorem Rps.bools : ∀ {vs : List V} {ds : List D} {bs : List Bool}, Rps K T p F vs ds → boolsOf ds = some bs → vs = bs.map V.bl
  | _, _, _, .nil, e => by cases e; rfl
  | _, _, _, .cons (d := d) h r, e => by
    cases h with
    | bl i =>
      simp only [boolsOf, Option.map_eq_some_iff] at e
      obtain ⟨ms, e1, rfl⟩ := e
      rw [Rps.bools r e1]
      rfl
    | _ => simp [boolsOf] at e
theorem Rps.ofInts : ∀ (ns : List Int), Rps K T p F (ns.map V.int) (ns.map D.int)
  | [] => .nil
  | n :: r => .cons (.int n) (Rps.ofInts r)
mutual
theorem Rp.dp : ∀ {v : V} {d : D} {x : PyData}, Rp K T p F v d → D.py d = some x → Dp K F v x
  | _, _, _, .non, e => by cases e; exact .non
  | _, _, _, .bl b, e => by cases e; exact .bl b
  | _, _, _, .int i, e => by cases e; exact .int i
  | _, _, _, .str s, e => by cases e; exact .str s
  | _, _, _, .tup h r, e => by
    simp only [D.py, Option.map_eq_some_iff] at e
    obtain ⟨xs, e1, rfl⟩ := e
    exact .tup h (Rps.dps r e1)
  | _, _, _, .lst h r, e => by
    simp only [D.py, Option.map_eq_some_iff] at e
    obtain ⟨xs, e1, rfl⟩ := e
    exact .lst (SqL.of h) (Rps.dps r e1)
  | _, _, _, .ins h n r, e => by simp [D.py] at e
  | _, _, _, .dic0 h, e => by simp [D.py] at e
  | _, _, _, .pen, e => by simp [D.py] at e
theorem Rps.dps : ∀ {vs : List V} {ds : List D} {xs : List PyData}, Rps K T p F vs ds → D.pys ds = some xs → DpAll K F vs xs
  | _, _, _, .nil, e => by cases e; exact .nil
  | _, _, _, .cons (d := d) (ds := ds) h r, e => by
    cases q : D.py d with
    | none => simp [D.pys, q] at e
    | some x =>
      cases q2 : D.pys ds with
      | none => simp [D.pys, q, q2] at e
      | some xs =>
        simp only [D.pys, q, q2, Option.some.injEq] at e
        subst e
        exact .cons (Rp.dp h q) (Rps.dps r q2)
end
end
section
variable {K : PySem.W.Frag} {F F' : Hp}
mutual
theorem dp_mono (e : Ext F F') : ∀ {v : V} {x : PyData}, Dp K F v x → Dp K F' v x
  | _, _, .non => .non
  | _, _, .bl b => .bl b
  | _, _, .int i => .int i
  | _, _, .str x => .str x
  | _, _, .lst h r => .lst (by rcases h with (h | ⟨o, h⟩) | h <;> first | exact .inl (.inl (e _ _ h)) | exact .inl (.inr ⟨o, e _ _ h⟩) | exact .inr h) (dps_mono e r)
  | _, _, .tup h r => .tup (e.t h) (dps_mono e r)
theorem dps_mono (e : Ext F F') : ∀ {vs : List V} {xs : List PyData}, DpAll K F vs xs → DpAll K F' vs xs
  | _, _, .nil => .nil
  | _, _, .cons h r => .cons (dp_mono e h) (dps_mono e r)
end
end

/-- no table of code objects -/
def NT (o : HO) : Prop := ∀ ps, o ≠ .tbl ps
theorem nt_lst (xs : List V) : NT (.lst xs) := fun _ z => nomatch z
theorem nt_tup (xs : List V) : NT (.tup xs) := fun _ z => nomatch z
theorem nt_dK (xs : List (Key × V)) : NT (.dK xs) := fun _ z => nomatch z
/-- the pen's list stands, apart from what is fixed; so do the tables of code objects -/
structure Pen (T : Tx) (p : Addr) (F H : Hp) (w : Pn) : Prop where
  no : F p = none
  at_ : ∃ c, H p = some (.lst [.ref c, .int w.at_, .int w.rest]) ∧ F c = some (.lst (w.cells.map V.int))
  ntb : ∀ b ps, F b ≠ some (.tbl ps)
  tabs : LamX.Tabs T.tb H
/-- from a state on: all but the pen is kept, what is fixed stays fixed, new things are fixed perhaps -/
structure Grow (p : Addr) (F H F' H' : Hp) : Prop where
  keep : ∀ b o, b ≠ p → NT o → H b = some o → H' b = some o
  live : ∀ b, b ≠ p → H' b = none → H b = none
  ff : Ext F F'
  fh : Ext F' H'
  new : ∀ b o, F' b = some o → F b = some o ∨ H b = none
section
variable {T : Tx} {p : Addr} {F H F1 H1 F2 H2 : Hp} {w w1 w2 : Pn}
theorem Grow.refl (e : Ext F H) : Grow p F H F H := ⟨fun _ _ _ _ h => h, fun _ _ h => h, Ext.refl F, e, fun _ _ h => .inl h⟩
theorem Grow.trans (a : Grow p F H F1 H1) (b : Grow p F1 H1 F2 H2) (n : F2 p = none) : Grow p F H F2 H2 := by
  refine ⟨fun c o hc t h => b.keep c o hc t (a.keep c o hc t h), fun c hc h => a.live c hc (b.live c hc h), a.ff.trans b.ff, b.fh, fun c o h => ?_⟩
  rcases b.new c o h with h1 | h1
  · exact a.new c o h1
  · by_cases hc : c = p
    · subst hc; rw [n] at h; cases h
    · exact .inr (a.live c hc h1)
theorem ext_grow {H' : Hp} (e : Ext H H') (f : Ext F F1) (fh : Ext F1 H') (new : ∀ b o, F1 b = some o → F b = some o ∨ H b = none) : Grow p F H F1 H' :=
  ⟨fun b o _ _ h => e b o h, fun b _ h => (by
    cases q : H b with
    | none => rfl
    | some u => rw [e _ _ q] at h; cases h), f, fh, new⟩
theorem ext_put {a : Addr} {o : HO} (h : H a = none) : Ext H (upd H a o) := fun b u q => by rw [upd_ne (ne_of_none q h)]; exact q
/-- a new object, fixed -/
theorem Grow.put (e : Ext F H) {a : Addr} {o : HO} (h : H a = none) : Grow p F H (upd F a o) (upd H a o) := by
  have ha : F a = none := by
    cases q : F a with
    | none => rfl
    | some u => rw [e _ _ q] at h; cases h
  refine ext_grow (ext_put h) (ext_put ha) (fun b u q => ?_) (fun b u q => ?_)
  · by_cases hb : b = a
    · subst hb; rw [upd_same] at q ⊢; exact q
    · rw [upd_ne hb] at q ⊢; exact e b u q
  · by_cases hb : b = a
    · subst hb; exact .inr h
    · rw [upd_ne hb] at q; exact .inl q
/-- a new object, not fixed -/
theorem Grow.lay (e : Ext F H) {a : Addr} {o : HO} (h : H a = none) : Grow p F H F (upd H a o) :=
  ext_grow (ext_put h) (Ext.refl F) (fun b u q => by rw [upd_ne (ne_of_none (e _ _ q) h)]; exact e _ _ q) (fun _ _ q => .inl q)
theorem Pen.put (P : Pen T p F H w) {a : Addr} {o : HO} (h : H a = none) (e : Ext F H) (t : NT o) : Pen T p (upd F a o) (upd H a o) w := by
  obtain ⟨c, h1, h2⟩ := P.at_
  have hp : p ≠ a := ne_of_none h1 h
  have hc : c ≠ a := ne_of_none (e _ _ h2) h
  refine ⟨by rw [upd_ne hp]; exact P.no, ⟨c, by rw [upd_ne hp]; exact h1, by rw [upd_ne hc]; exact h2⟩, fun b ps q => ?_, P.tabs.ext (ext_put h)⟩
  by_cases hb : b = a
  · subst hb; rw [upd_same] at q; exact t ps (Option.some.inj q)
  · rw [upd_ne hb] at q; exact P.ntb b ps q
theorem Pen.lay (P : Pen T p F H w) {a : Addr} {o : HO} (h : H a = none) : Pen T p F (upd H a o) w := by
  obtain ⟨c, h1, h2⟩ := P.at_
  exact ⟨P.no, ⟨c, by rw [upd_ne (ne_of_none h1 h)]; exact h1, h2⟩, P.ntb, P.tabs.ext (ext_put h)⟩
/-- a list is written; tables stay -/
theorem tabs_put {tb : List (Addr × Str)} {a : Addr} {xs ys : List V} (t : LamX.Tabs tb H) (h : H a = some (.lst xs)) : LamX.Tabs tb (upd H a (.lst ys)) := fun q hq => by
  obtain ⟨ps, h1, h2, h3⟩ := t q hq
  refine ⟨ps, by rw [upd_ne (fun z => by rw [z, h] at h1; cases h1)]; exact h1, h2, fun pos cv hc => ?_⟩
  obtain ⟨c, e1, e2⟩ := h3 pos cv hc
  exact ⟨c, e1, by rw [upd_ne (fun z => by rw [z, h] at e2; unfold LamX.CodeO at e2; cases e2)]; exact e2⟩
/-- a list of the def's own is written -/
theorem Pen.write (P : Pen T p F H w) {a : Addr} {xs ys : List V} (h : H a = some (.lst xs)) (n : a ≠ p) : Pen T p F (upd H a (.lst ys)) w := by
  obtain ⟨c, h1, h2⟩ := P.at_
  exact ⟨P.no, ⟨c, by rw [upd_ne (Ne.symm n)]; exact h1, h2⟩, P.ntb, tabs_put P.tabs h⟩
/-- what stands becomes fixed -/
theorem Pen.fix (P : Pen T p F H w) {a : Addr} {o : HO} (n : a ≠ p) (t : NT o) (hF : F a = none) : Pen T p (upd F a o) H w := by
  obtain ⟨c, h1, h2⟩ := P.at_
  refine ⟨by rw [upd_ne (Ne.symm n)]; exact P.no, ⟨c, h1, by rw [upd_ne (fun z => by rw [z, hF] at h2; cases h2)]; exact h2⟩, fun b ps q => ?_, P.tabs⟩
  by_cases hb : b = a
  · subst hb; rw [upd_same] at q; exact t ps (Option.some.inj q)
  · rw [upd_ne hb] at q; exact P.ntb b ps q
end

/-- what stands in the slots -/
structure IV (K : PySem.W.Frag) (T : Tx) (p : Addr) (F H : Hp) (σ : L2.St) (env : En) (w : Pn) : Prop where
  sub : Ext F H
  pen : Pen T p F H w
  len : σ.length = env.length
  val : ∀ (i : Nat) (d : D), env[i]? = some (some (.val d)) → ∃ v, σ[i]? = some (some v) ∧ Rp K T p F v d
  chg : ∀ (i : Nat) (l : List D), env[i]? = some (some (.chg l)) → ∃ (a : Addr) (vs : List V), σ[i]? = some (some (.ref a)) ∧ H a = some (.lst vs) ∧ F a = none ∧ a ≠ p ∧ Rps K T p F vs l
  apart : ∀ (i j : Nat) (l m : List D) (a : Addr), i ≠ j → env[i]? = some (some (.chg l)) → env[j]? = some (some (.chg m)) → σ[i]? = some (some (.ref a)) → σ[j]? ≠ some (some (.ref a))

/-- the end by data: m what is reckoned, R how its value is told -/
def Post {α β : Type} (K : PySem.W.Frag) (T : Tx) (R : Addr → Hp → Hp → β → α → Prop) (m : Option (Out α)) (p : Addr) (F H : Hp) (Q : β → Hp → Prop) (W : XK) : Prop := match m with
  | none => False
  | some (.ok a w) => ∀ (b : β) (F' H' : Hp), Grow p F H F' H' → Pen T p F' H' w → R p F' H' b a → Q b H'
  | some (.ex c d w) => ∀ (dx : Addr) (v : V) (F' H' : Hp), Grow p F H F' H' → Pen T p F' H' w → H' dx = some (.xd [(T.ef c, v)]) → Rp K T p F' v d → W (.ref (T.ea c)) (some dx) H'
section
variable {K : PySem.W.Frag} {T : Tx} {p : Addr} {F H F1 H1 : Hp} {w : Pn} {W : XK} {σ : L2.St} {env : En}
theorem IV.step (iv : IV K T p F H σ env w) {w1 : Pn} (g : Grow p F H F1 H1) (pn : Pen T p F1 H1 w1) : IV K T p F1 H1 σ env w1 := by
  refine ⟨g.fh, pn, iv.len, fun i d e => ?_, fun i l e => ?_, iv.apart⟩
  · obtain ⟨v, h1, h2⟩ := iv.val i d e
    exact ⟨v, h1, h2.mono g.ff⟩
  · obtain ⟨a, vs, h1, h2, h3, h4, h5⟩ := iv.chg i l e
    refine ⟨a, vs, h1, g.keep _ _ h4 (nt_lst _) h2, ?_, h4, h5.mono g.ff⟩
    cases q : F1 a with
    | none => rfl
    | some o =>
      rcases g.new a o q with z | z
      · rw [h3] at z; cases z
      · rw [h2] at z; cases z
theorem Post.from {α β : Type} {R : Addr → Hp → Hp → β → α → Prop} {m : Option (Out α)} {Q : β → Hp → Prop} (h : Post K T R m p F H Q W) (g : Grow p F H F1 H1) : Post K T R m p F1 H1 Q W := by
  cases m with
  | none => exact h
  | some o =>
    cases o with
    | ok a w => exact fun b F' H' g' pn r => h b F' H' (g.trans g' pn.no) pn r
    | ex c d w => exact fun dx v F' H' g' pn e r => h dx v F' H' (g.trans g' pn.no) pn e r
/-- one thing, then another -/
theorem Post.bind {α β γ δ : Type} {R1 : Addr → Hp → Hp → β → α → Prop} {R2 : Addr → Hp → Hp → δ → γ → Prop} {m : Option (Out α)} {f : α → Pn → Option (Out γ)} {Q1 : β → Hp → Prop} {Q2 : δ → Hp → Prop}
    (h : Post K T R2 (bnd m f) p F H Q2 W)
    (k : ∀ a w1 b F1 H1, m = some (.ok a w1) → Grow p F H F1 H1 → Pen T p F1 H1 w1 → R1 p F1 H1 b a → Post K T R2 (f a w1) p F1 H1 Q2 W → Q1 b H1) : Post K T R1 m p F H Q1 W := by
  cases m with
  | none => exact h
  | some o =>
    cases o with
    | ok a w => exact fun b F' H' g' pn r => k a w b F' H' rfl g' pn r (h.from g')
    | ex c d w => exact h
theorem Post.opt {α β γ : Type} {R : Addr → Hp → Hp → β → γ → Prop} {o : Option α} {f : α → Pn → Option (Out γ)} {Q : β → Hp → Prop} (h : Post K T R (bnd (opt o w) f) p F H Q W) : ∃ a, o = some a ∧ Post K T R (f a w) p F H Q W := by
  cases o with
  | none => exact h.elim
  | some a => exact ⟨a, rfl, h⟩
theorem Post.opt1 {α β : Type} {R : Addr → Hp → Hp → β → α → Prop} {o : Option α} {Q : β → Hp → Prop} (h : Post K T R (Rh.opt o w) p F H Q W) : ∃ a, o = some a ∧ Post K T R (some (.ok a w)) p F H Q W := by
  cases o with
  | none => exact h.elim
  | some a => exact ⟨a, rfl, h⟩
theorem Post.here {α β : Type} {R : Addr → Hp → Hp → β → α → Prop} {a : α} {b : β} {Q : β → Hp → Prop} (h : Post K T R (some (.ok a w)) p F H Q W) (e : Ext F H) (pn : Pen T p F H w) (r : R p F H b a) : Q b H := h b F H (Grow.refl e) pn r
end

abbrev RV (K : PySem.W.Frag) (T : Tx) : Addr → Hp → Hp → V → D → Prop := fun p F _ v d => Rp K T p F v d
abbrev RVs (K : PySem.W.Frag) (T : Tx) : Addr → Hp → Hp → List V → List D → Prop := fun p F _ v d => Rps K T p F v d
abbrev RB : Addr → Hp → Hp → Bool → Bool → Prop := fun _ _ _ a b => a = b
def tX (K : PySem.W.Frag) (T : Tx) (W : XK) (f : XF) : TE := fun σ H Q => ∃ p F env w, IV K T p F H σ env w ∧ Post K T (RV K T) (f env w) p F H Q W
def tT (K : PySem.W.Frag) (T : Tx) (W : XK) (f : TF) : TT := fun σ H Q => ∃ p F env w, IV K T p F H σ env w ∧ Post K T RB (f env w) p F H Q W
def tA (K : PySem.W.Frag) (T : Tx) (W : XK) (f : AF) : TA := fun σ H Q => ∃ p F env w, IV K T p F H σ env w ∧ Post K T (RVs K T) (f env w) p F H Q W
end Rh
set_option Elab.async false
set_option linter.all false
set_option maxRecDepth 100000
set_option maxHeartbeats 1000000
/-! Rh: expressions by data. -/
namespace Rh
open PySem L2 PySem.Spec PyProof.Rows
theorem imE {X : Cx} {e : Expr} {t t' : TE} (h : PE X e t) (i : ∀ σ H Q, t' σ H Q → t σ H Q) : PE X e t' := ⟨fun pins s σ H Q I q => h.run pins s σ H Q I (i _ _ _ q)⟩
theorem imT {X : Cx} {e : Expr} {t t' : TT} (h : PT X e t) (i : ∀ σ H Q, t' σ H Q → t σ H Q) : PT X e t' := ⟨fun pins s σ H Q I q => h.run pins s σ H Q I (i _ _ _ q)⟩
theorem imW {X : Cx} {e : Expr} {t t' : TT} (h : PW X e t) (i : ∀ σ H Q, t' σ H Q → t σ H Q) : PW X e t' := ⟨fun wh pins s σ H Q I q => h.run wh pins s σ H Q I (i _ _ _ q)⟩
theorem imA {X : Cx} {e : List Expr} {t t' : TA} (h : PA X e t) (i : ∀ σ H Q, t' σ H Q → t σ H Q) : PA X e t' := ⟨fun po pins s σ H Q I q => h.run po pins s σ H Q I (i _ _ _ q)⟩

theorem slot_some {σ : En} {i : Nat} {d : D} (h : slot σ i = some d) : σ[i]? = some (some (.val d)) := by
  unfold slot at h
  cases q : σ[i]? with
  | none => rw [q] at h; cases h
  | some o =>
    rw [q] at h
    cases o with
    | none => cases h
    | some s =>
      cases s with
      | val e => cases h; rfl
      | chg l => cases h
theorem mslot_some {σ : En} {i : Nat} {l : List D} (h : mslot σ i = some l) : σ[i]? = some (some (.chg l)) := by
  unfold mslot at h
  cases q : σ[i]? with
  | none => rw [q] at h; cases h
  | some o =>
    rw [q] at h
    cases o with
    | none => cases h
    | some s =>
      cases s with
      | val e => cases h
      | chg l => cases h; rfl

section
variable {X : Cx} {T : Tx} {W : XK} {pos : Pos}
/-! ### names, constants -/
theorem x_var (i : Nat) {x : Str} (hN : X.N[i]? = some x := by rfl) (hv : Vis X.env.scope x := by first | exact Or.inl rfl | exact Or.inr (Or.inl rfl) | exact Or.inr (Or.inr rfl)) (hd : (x == ("__debug__" : Str)) = false := by decide)
    (hcd : (x == ("__classdict__" : Str)) = false := by decide) : PE X (.Name x pos) (tX X.K T W (xvar i)) := imE (pe_var hN hv hd hcd) fun σ H Q ⟨p, F, env, w, iv, h⟩ => by
  obtain ⟨d, e, h⟩ := Post.opt1 h
  obtain ⟨v, h1, h2⟩ := iv.val i d (slot_some e)
  exact ⟨v, h1, h.here iv.sub iv.pen h2⟩
theorem x_int {i : Int} {j : Nat} : PE X (.Constant (.int i) j pos) (tX X.K T W (xcst (.int i))) := imE pe_int fun σ H Q ⟨p, F, env, w, iv, h⟩ => Post.here h iv.sub iv.pen (.int i)
theorem x_str {s : Str} {j : Nat} : PE X (.Constant (.str s) j pos) (tX X.K T W (xcst (.str s))) := imE pe_str fun σ H Q ⟨p, F, env, w, iv, h⟩ => Post.here h iv.sub iv.pen (.str s)
theorem x_bl {b : Bool} {j : Nat} : PE X (.Constant (.bool b) j pos) (tX X.K T W (xcst (.bl b))) := imE pe_bl fun σ H Q ⟨p, F, env, w, iv, h⟩ => Post.here h iv.sub iv.pen (.bl b)
theorem x_non {j : Nat} : PE X (.Constant .none j pos) (tX X.K T W (xcst .non)) := imE pe_non fun σ H Q ⟨p, F, env, w, iv, h⟩ => Post.here h iv.sub iv.pen .non
/-- a module's number -/
theorem x_gint {x : Str} {i : Int} (hm : ∃ t, X.mg x = some (.int i t)) (hg : Gl X x := by rfl) (hd : (x == ("__debug__" : Str)) = false := by decide) : PE X (.Name x pos) (tX X.K T W (xcst (.int i))) := by
  obtain ⟨t, hm⟩ := hm
  exact imE (pe_glob (v := .int i) hg hm ⟨t, rfl⟩ hd) fun σ H Q ⟨p, F, env, w, iv, h⟩ => Post.here h iv.sub iv.pen (.int i)

/-! ### operators -/
/-- a new object that is fixed -/
theorem new_ok {K : PySem.W.Frag} {α : Type} {p : Addr} {F H : Hp} {w : Pn} {d : D} {Q : VK} {o : HO} (h : Post K T (RV K T) (some (.ok d w)) p F H Q W) (e : Ext F H) (pn : Pen T p F H w) {a : Addr} (ha : H a = none) (r : ∀ F', Ext F F' → F' a = some o → Rp K T p F' (.ref a) d) (nt : NT o := by first | exact nt_lst _ | exact nt_tup _ | exact nt_dK _) : Q (.ref a) (upd H a o) :=
  h (.ref a) (upd F a o) (upd H a o) (Grow.put e ha) (pn.put ha e nt) (r _ (Grow.put (p := p) e ha).ff upd_same)
/-- what an operator on values gives, by data -/
def ByD (r : R2) (K : PySem.W.Frag) (T : Tx) (W : XK) (f : D → D → Option D) : Prop := ∀ (p : Addr) (F H : Hp) (w : Pn) (x y : V) (a b d : D) (Q : VK), Ext F H → Pen T p F H w → Rp K T p F x a → Rp K T p F y b → f a b = some d → Post K T (RV K T) (some (.ok d w)) p F H Q W → r x y H Q
theorem bin_of {r : R2} {f : D → D → Option D} {a b : XF} {ta tb : TE} (hta : ta = tX X.K T W a) (htb : tb = tX X.K T W b) (hr : ByD r X.K T W f) :
    ∀ σ H Q, tX X.K T W (fun σ w => bnd (a σ w) fun x w => bnd (b σ w) fun y w => opt (f x y) w) σ H Q → tOp r ta tb σ H Q := by
  subst hta htb
  rintro σ H Q ⟨p, F, env, w, iv, h⟩
  refine ⟨p, F, env, w, iv, Post.bind h fun x w1 v F1 H1 e1 g1 pn1 rx h1 => ?_⟩
  refine ⟨p, F1, env, w1, iv.step g1 pn1, Post.bind h1 fun y w2 u F2 H2 e2 g2 pn2 ry h2 => ?_⟩
  obtain ⟨d, e, h3⟩ := Post.opt1 h2
  exact hr p F2 H2 w2 v u x y d Q g2.fh pn2 (rx.mono g2.ff) ry e h3
theorem byD_add : ByD (fun x y H Q => rI0 (fun i j => V.int (i + j)) x y H Q ∨ rCat x y H Q) X.K T W (boF .add) := by
  intro p F H w x y a b d Q e pn rx ry h q
  cases rx with
  | int i =>
    cases ry with
    | int j => cases h; exact .inl ⟨i, j, rfl, rfl, q.here e pn (.int _)⟩
    | _ => simp [boF] at h
  | lst h1 r1 =>
    cases ry with
    | lst h2 r2 =>
      rename_i a1 xs ds b1 ys es
      simp only [boF] at h
      split at h
      · rename_i z
        cases h
        refine .inr ⟨a1, b1, xs, ys, rfl, rfl, e _ _ h1, e _ _ h2, ?_, fun l hl => new_ok (α := Unit) q e pn hl fun F' eF hF => .lst hF ((r1.mono eF).append (r2.mono eF))⟩
        rw [r1.length, r2.length]
        exact of_decide_eq_true z
      · cases h
    | _ => simp [boF] at h
  | _ => simp [boF] at h
theorem byD_sub : ByD (rI0 (fun i j => V.int (i - j))) X.K T W (boF .sub) := by
  intro p F H w x y a b d Q e pn rx ry h q
  cases rx with
  | int i =>
    cases ry with
    | int j => cases h; exact ⟨i, j, rfl, rfl, q.here e pn (.int _)⟩
    | _ => simp [boF] at h
  | _ => simp [boF] at h
theorem byD_mul : ByD (fun x y H Q => rI CMulW (fun i j => V.int (i * j)) x y H Q ∨ rRep x y H Q) X.K T W (boF .mul) := by
  intro p F H w x y a b d Q e pn rx ry h q
  cases rx with
  | int i =>
    cases ry with
    | int j =>
      simp only [boF] at h
      split at h
      · rename_i z
        cases h
        exact .inl ⟨i, j, rfl, rfl, (show CMulW i j from by unfold mulOk at z; exact (of_decide_eq_true z : i.natAbs.log2 + j.natAbs.log2 < 1000000)), q.here e pn (.int _)⟩
      · cases h
    | _ => simp [boF] at h
  | lst h1 r1 =>
    cases ry with
    | int j =>
      rename_i a1 xs ds
      simp only [boF] at h
      split at h
      · rename_i z
        cases h
        simp only [small, Bool.and_eq_true, decide_eq_true_eq] at z
        obtain ⟨⟨z1, z2⟩, z3⟩ := z
        refine .inr ⟨a1, j, xs, rfl, rfl, e _ _ h1, by omega, by omega, ?_, fun l hl => new_ok (α := Unit) q e pn hl fun F' eF hF => .lst hF ((r1.mono eF).rep _)⟩
        rw [r1.length]
        exact z3
      · cases h
    | _ => simp [boF] at h
  | _ => simp [boF] at h
theorem byD_fdiv : ByD (rI CDivW (fun i j => V.int (i / j))) X.K T W (boF .fdiv) := by
  intro p F H w x y a b d Q e pn rx ry h q
  cases rx with
  | int i =>
    cases ry with
    | int j =>
      simp only [boF] at h
      split at h
      · rename_i z
        cases h
        simp only [divOk, Bool.and_eq_true, decide_eq_true_eq] at z
        exact ⟨i, j, rfl, rfl, z, q.here e pn (.int _)⟩
      · cases h
    | _ => simp [boF] at h
  | _ => simp [boF] at h
theorem byD_mod : ByD (rI (fun _ j => 0 < j) (fun i j => V.int (i % j))) X.K T W (boF .mod) := by
  intro p F H w x y a b d Q e pn rx ry h q
  cases rx with
  | int i =>
    cases ry with
    | int j =>
      simp only [boF] at h
      split at h
      · rename_i z
        cases h
        exact ⟨i, j, rfl, rfl, of_decide_eq_true z, q.here e pn (.int _)⟩
      · cases h
    | _ => simp [boF] at h
  | _ => simp [boF] at h
variable {a b c : Expr} {fa fb fc : XF}
theorem x_add (ha : PE X a (tX X.K T W fa)) (hb : PE X b (tX X.K T W fb)) : PE X (.BinOp a .Add b pos) (tX X.K T W (xbin .add fa fb)) := imE (pe_op (op_add.or op_cat) ha hb) (bin_of rfl rfl byD_add)
theorem x_sub (ha : PE X a (tX X.K T W fa)) (hb : PE X b (tX X.K T W fb)) : PE X (.BinOp a .Sub b pos) (tX X.K T W (xbin .sub fa fb)) := imE (pe_op op_sub ha hb) (bin_of rfl rfl byD_sub)
theorem x_mul (ha : PE X a (tX X.K T W fa)) (hb : PE X b (tX X.K T W fb)) : PE X (.BinOp a .Mult b pos) (tX X.K T W (xbin .mul fa fb)) := imE (pe_op (op_mulW.or op_rep) ha hb) (bin_of rfl rfl byD_mul)
theorem x_fdiv (ha : PE X a (tX X.K T W fa)) (hb : PE X b (tX X.K T W fb)) : PE X (.BinOp a .FloorDiv b pos) (tX X.K T W (xbin .fdiv fa fb)) := imE (pe_op op_fdivW ha hb) (bin_of rfl rfl byD_fdiv)
theorem x_mod (ha : PE X a (tX X.K T W fa)) (hb : PE X b (tX X.K T W fb)) : PE X (.BinOp a .Mod b pos) (tX X.K T W (xbin .mod fa fb)) := imE (pe_op op_mod ha hb) (bin_of rfl rfl byD_mod)
theorem x_neg (ha : PE X a (tX X.K T W fa)) : PE X (.UnaryOp .USub a pos) (tX X.K T W (xneg fa)) := imE (pe_un un_neg ha) fun σ H Q ⟨p, F, env, w, iv, h⟩ => by
  refine ⟨p, F, env, w, iv, Post.bind h fun x w1 v F1 H1 e1 g1 pn1 rx h1 => ?_⟩
  obtain ⟨d, e, h2⟩ := Post.opt1 h1
  cases rx with
  | int i => cases e; exact ⟨i, rfl, h2.here g1.fh pn1 (.int _)⟩
  | _ => simp [negF] at e

/-! ### comparisons -/
theorem byD_eq : ByD (rEqD X.K) X.K T W (coF .eq) := by
  intro p F H w x y a b d Q e pn rx ry h q
  simp only [coF, Option.map_eq_some_iff] at h
  obtain ⟨k, h, rfl⟩ := h
  unfold eqF at h
  cases qa : D.py a with
  | none => rw [qa] at h; cases h
  | some u =>
    cases qb : D.py b with
    | none => rw [qa, qb] at h; cases h
    | some v =>
      rw [qa, qb] at h
      simp only at h
      split at h
      · rename_i z
        cases h
        rw [Bool.and_eq_true] at z
        exact ⟨u, v, dp_mono e (rx.dp qa), dp_mono e (ry.dp qb), z.1, z.2, q.here e pn (.bl _)⟩
      · cases h
theorem byD_ne : ByD (rNeD X.K) X.K T W (coF .ne) := by
  intro p F H w x y a b d Q e pn rx ry h q
  simp only [coF, Option.map_eq_some_iff] at h
  obtain ⟨k, h, rfl⟩ := h
  unfold eqF at h
  cases qa : D.py a with
  | none => rw [qa] at h; cases h
  | some u =>
    cases qb : D.py b with
    | none => rw [qa, qb] at h; cases h
    | some v =>
      rw [qa, qb] at h
      simp only at h
      split at h
      · rename_i z
        cases h
        rw [Bool.and_eq_true] at z
        exact ⟨u, v, dp_mono e (rx.dp qa), dp_mono e (ry.dp qb), z.1, z.2, q.here e pn (.bl _)⟩
      · cases h
theorem byD_int {g : Int → Int → Bool} {o : Co} (hg : ∀ i j, coF o (.int i) (.int j) = some (.bl (g i j))) (hn : ∀ a b d, coF o a b = some d → ∃ i j, a = .int i ∧ b = .int j) : ByD (rI0 (fun i j => V.bl (g i j))) X.K T W (coF o) := by
  intro p F H w x y a b d Q e pn rx ry h q
  obtain ⟨i, j, rfl, rfl⟩ := hn _ _ _ h
  cases rx
  cases ry
  rw [hg] at h
  cases h
  exact ⟨i, j, rfl, rfl, q.here e pn (.bl _)⟩
theorem ints_of {o : Co} (ho : o = .lt ∨ o = .le ∨ o = .gt ∨ o = .ge) : ∀ a b d, coF o a b = some d → ∃ i j, a = .int i ∧ b = .int j := by
  intro a b d h
  rcases ho with rfl | rfl | rfl | rfl <;> cases a <;> cases b <;> first | exact ⟨_, _, rfl, rfl⟩ | (simp [coF] at h)
theorem byD_lt : ByD (rI0 (fun i j => V.bl (decide (i < j)))) X.K T W (coF .lt) := byD_int (o := .lt) (fun _ _ => rfl) (ints_of (.inl rfl))
theorem byD_le : ByD (rI0 (fun i j => V.bl (decide (i ≤ j)))) X.K T W (coF .le) := byD_int (o := .le) (fun _ _ => rfl) (ints_of (.inr (.inl rfl)))
theorem byD_gt : ByD (rI0 (fun i j => V.bl (decide (j < i)))) X.K T W (coF .gt) := byD_int (o := .gt) (fun _ _ => rfl) (ints_of (.inr (.inr (.inl rfl))))
theorem byD_ge : ByD (rI0 (fun i j => V.bl (decide (j ≤ i)))) X.K T W (coF .ge) := byD_int (o := .ge) (fun _ _ => rfl) (ints_of (.inr (.inr (.inr rfl))))
theorem isNon_of {K : PySem.W.Frag} {p : Addr} {F : Hp} {v : V} {d : D} (r : Rp K T p F v d) : d.isNon = decide (v = .non) := by
  cases r <;> simp [D.isNon]
theorem byD_isN : ByD (fun x y H Q => y = .non ∧ Q (.bl (decide (x = .non))) H) X.K T W (coF .isN) := by
  intro p F H w x y a b d Q e pn rx ry h q
  cases ry with
  | non =>
    have h' : some (D.bl a.isNon) = some d := by cases a <;> exact h
    cases h'
    rw [isNon_of rx] at q
    exact ⟨rfl, q.here e pn (.bl _)⟩
  | _ => cases a <;> simp [coF] at h
theorem byD_notN : ByD (fun x y H Q => y = .non ∧ Q (.bl (!decide (x = .non))) H) X.K T W (coF .notN) := by
  intro p F H w x y a b d Q e pn rx ry h q
  cases ry with
  | non =>
    have h' : some (D.bl (!a.isNon)) = some d := by cases a <;> exact h
    cases h'
    rw [isNon_of rx] at q
    exact ⟨rfl, q.here e pn (.bl _)⟩
  | _ => cases a <;> simp [coF] at h
theorem coF_bl {o : Co} {a b d : D} (h : coF o a b = some d) : ∃ k, d = .bl k := by
  cases o with
  | eq => simp only [coF, Option.map_eq_some_iff] at h; obtain ⟨k, _, rfl⟩ := h; exact ⟨_, rfl⟩
  | ne => simp only [coF, Option.map_eq_some_iff] at h; obtain ⟨k, _, rfl⟩ := h; exact ⟨_, rfl⟩
  | isN => cases b <;> simp [coF] at h; exact ⟨_, h.symm⟩
  | notN => cases b <;> simp [coF] at h; exact ⟨_, h.symm⟩
  | _ => cases a <;> cases b <;> simp [coF] at h; exact ⟨_, h.symm⟩
theorem bnd_ok_of {α β : Type} {m : Option (Out α)} {f : α → Pn → Option (Out β)} {b : β} {w : Pn} (h : bnd m f = some (.ok b w)) : ∃ a w1, m = some (.ok a w1) ∧ f a w1 = some (.ok b w) := by
  cases m with
  | none => cases h
  | some o =>
    cases o with
    | ok a w1 => exact ⟨a, w1, rfl, h⟩
    | ex c d w1 => cases h
theorem opt_ok_of {α : Type} {o : Option α} {a : α} {w w1 : Pn} (h : opt o w = some (.ok a w1)) : o = some a ∧ w = w1 := by
  cases o with
  | none => cases h
  | some b => cases h; exact ⟨rfl, rfl⟩
theorem xcmp_bl {o : Co} {fa fb : XF} {σ : En} {w w1 : Pn} {d : D} (h : xcmp o fa fb σ w = some (.ok d w1)) : ∃ k, d = .bl k := by
  obtain ⟨x, w2, h1, h2⟩ := bnd_ok_of h
  obtain ⟨y, w3, h3, h4⟩ := bnd_ok_of h2
  exact coF_bl (opt_ok_of h4).1
/-- a comparison's sign, its rule, what it asks -/
structure CR (X : Cx) (T : Tx) (W : XK) (op : CmpOp) (o : Co) : Prop where
  ex : ∃ r, OpR X (compareOp op) r ∧ ByD r X.K T W (coF o)
  ni : op ≠ .In ∧ op ≠ .NotIn
theorem c_eq (hu : X.A.units + 64 < cLine) : CR X T W .Eq .eq := ⟨⟨_, op_eqD hu, byD_eq⟩, by decide, by decide⟩
theorem c_ne (hu : X.A.units + 64 < cLine) : CR X T W .NotEq .ne := ⟨⟨_, op_neD hu, byD_ne⟩, by decide, by decide⟩
theorem c_lt : CR X T W .Lt .lt := ⟨⟨_, op_lt, byD_lt⟩, by decide, by decide⟩
theorem c_le : CR X T W .LtE .le := ⟨⟨_, op_le, byD_le⟩, by decide, by decide⟩
theorem c_gt : CR X T W .Gt .gt := ⟨⟨_, op_gt, byD_gt⟩, by decide, by decide⟩
theorem c_ge : CR X T W .GtE .ge := ⟨⟨_, op_ge, byD_ge⟩, by decide, by decide⟩
theorem c_isN : CR X T W .Is .isN := ⟨⟨_, op_isN, byD_isN⟩, by decide, by decide⟩
theorem c_notN : CR X T W .IsNot .notN := ⟨⟨_, op_notN, byD_notN⟩, by decide, by decide⟩
theorem x_cmp {op : CmpOp} {o : Co} (hc : CR X T W op o) (ha : PE X a (tX X.K T W fa)) (hb : PE X b (tX X.K T W fb)) : PE X (.Compare a [op] [b] pos) (tX X.K T W (xcmp o fa fb)) := by
  obtain ⟨r, h1, h2⟩ := hc.ex
  exact imE (pe_cmpR h1 ha hb (nobehind b hc.ni.1 hc.ni.2)) (bin_of rfl rfl h2)
/-- .. as a test -/
theorem t_cmp {op : CmpOp} {o : Co} (hc : CR X T W op o) (ha : PE X a (tX X.K T W fa)) (hb : PE X b (tX X.K T W fb)) : PT X (.Compare a [op] [b] pos) (tT X.K T W (xtru (xcmp o fa fb))) := by
  obtain ⟨r, h1, h2⟩ := hc.ex
  refine imT (pt_cmpR h1 ha hb (nobehind b hc.ni.1 hc.ni.2)) fun σ H Q ⟨p, F, env, w, iv, h⟩ => ?_
  refine bin_of rfl rfl h2 σ H _ ⟨p, F, env, w, iv, ?_⟩
  refine Post.bind h fun x w1 v F1 H1 e1 g1 pn1 rx h1 => ?_
  obtain ⟨k, e, h3⟩ := Post.opt1 h1
  obtain ⟨j, rfl⟩ := xcmp_bl e1
  cases rx
  cases e
  exact ⟨_, rfl, h3.here g1.fh pn1 rfl⟩
end
end Rh
set_option Elab.async false
set_option linter.all false
set_option maxRecDepth 100000
set_option maxHeartbeats 1000000
/-! Rh: tests, displays, items, fields, isinstance, built-ins by data. -/
namespace Rh
open PySem L2 PySem.Spec PyProof.Rows
section
variable {X : Cx} {T : Tx} {W : XK} {pos : Pos} {a b c : Expr} {fa fb fc : XF} {ta tb tc : TF}
theorem Ext.l {K : PySem.W.Frag} {F F' : Hp} {a : Addr} {xs : List V} (e : Ext F F') (h : SqL K F a xs) : SqL K F' a xs := by
  rcases h with (h | ⟨o, h⟩) | h
  · exact .inl (.inl (e _ _ h))
  · exact .inl (.inr ⟨o, e _ _ h⟩)
  · exact .inr h
theorem tru_of {K : PySem.W.Frag} {p : Addr} {F H : Hp} {v : V} {d : D} {k : Bool} (e : Ext F H) (r : Rp K T p F v d) (h : d.tru = some k) : TruV K v H k := by
  cases r with
  | non => cases h; rfl
  | bl b => cases h; rfl
  | int i => cases h; rfl
  | str x =>
    simp only [D.tru] at h
    split at h
    · rename_i z
      cases h
      refine ⟨z, ?_⟩
      by_cases hx : x.length = 0
      · rw [hx]; rfl
      · have h1 : ((x.length : Int) != 0) = true := by simp; omega
        have h2 : (x.length != 0) = true := by simpa using hx
        rw [h1, h2]
    · cases h
  | tup h1 r1 =>
    cases h
    refine .inr (.inl ⟨_, e.t h1, ?_⟩)
    cases r1 <;> rfl
  | lst h1 r1 =>
    cases h
    refine .inl ⟨_, SqL.of (e _ _ h1), ?_⟩
    cases r1 <;> rfl
  | ins _ _ _ => cases h
  | dic0 h1 => cases h; exact .inr (.inr ⟨_, e _ _ h1, rfl⟩)
  | pen => cases h
/-! ### tests -/
theorem t_tru (ha : PE X a (tX X.K T W fa)) (he : ∀ whole, isTrue a X.env whole = (do let v ← whole; standAt a.pos; holding [v] (truthy v)) := by intro _; rfl) : PT X a (tT X.K T W (xtru fa)) :=
  imT (pt_truth ha he) fun σ H Q ⟨p, F, env, w, iv, h⟩ => by
    refine ⟨p, F, env, w, iv, Post.bind h fun x w1 v F1 H1 e1 g1 pn1 rx h1 => ?_⟩
    obtain ⟨k, e, h3⟩ := Post.opt1 h1
    exact ⟨k, tru_of g1.fh rx e, h3.here g1.fh pn1 rfl⟩
theorem w_and1 (ha : PT X a (tT X.K T W ta)) : PW X (.BoolOp .And [a] pos) (tT X.K T W ta) := pw_and1 ha
theorem w_or1 (ha : PT X a (tT X.K T W ta)) : PW X (.BoolOp .Or [a] pos) (tT X.K T W ta) := pw_or1 ha
theorem w_and {rest : List Expr} (ha : PT X a (tT X.K T W ta)) (hb : PW X (.BoolOp .And (b :: rest) pos) (tT X.K T W tb)) : PW X (.BoolOp .And (a :: b :: rest) pos) (tT X.K T W (tand ta tb)) :=
  imW (pw_and ha hb) fun σ H Q ⟨p, F, env, w, iv, h⟩ => by
    refine ⟨p, F, env, w, iv, Post.bind h fun x w1 v F1 H1 e1 g1 pn1 rx h1 => ?_⟩
    cases (show v = x from rx)
    cases x with
    | true => exact ⟨p, F1, env, w1, iv.step g1 pn1, h1⟩
    | false => exact Post.here h1 g1.fh pn1 rfl
theorem w_or {rest : List Expr} (ha : PT X a (tT X.K T W ta)) (hb : PW X (.BoolOp .Or (b :: rest) pos) (tT X.K T W tb)) : PW X (.BoolOp .Or (a :: b :: rest) pos) (tT X.K T W (tor ta tb)) :=
  imW (pw_or ha hb) fun σ H Q ⟨p, F, env, w, iv, h⟩ => by
    refine ⟨p, F, env, w, iv, Post.bind h fun x w1 v F1 H1 e1 g1 pn1 rx h1 => ?_⟩
    cases (show v = x from rx)
    cases x with
    | false => exact ⟨p, F1, env, w1, iv.step g1 pn1, h1⟩
    | true => exact Post.here h1 g1.fh pn1 rfl
theorem t_not (ha : PT X a (tT X.K T W ta)) : PT X (.UnaryOp .Not a pos) (tT X.K T W (tnot ta)) :=
  imT (pt_not ha) fun σ H Q ⟨p, F, env, w, iv, h⟩ => by
    refine ⟨p, F, env, w, iv, Post.bind h fun x w1 v F1 H1 e1 g1 pn1 rx h1 => ?_⟩
    cases (show v = x from rx)
    exact Post.here h1 g1.fh pn1 rfl
/-! ### .. as values -/
theorem x_one {op : BoolOp} (h : PE X a (tX X.K T W fa)) : PE X (.BoolOp op [a] pos) (tX X.K T W fa) := pe_one h
theorem x_and {rest : List Expr} (ha : PE X a (tX X.K T W fa)) (hb : PE X (.BoolOp .And (b :: rest) pos) (tX X.K T W fb)) : PE X (.BoolOp .And (a :: b :: rest) pos) (tX X.K T W (xand fa fb)) :=
  imE (pe_andT ha hb) fun σ H Q ⟨p, F, env, w, iv, h⟩ => by
    refine ⟨p, F, env, w, iv, Post.bind h fun x w1 v F1 H1 e1 g1 pn1 rx h1 => ?_⟩
    obtain ⟨k, e, h3⟩ := Post.opt h1
    refine ⟨k, tru_of g1.fh rx e, ?_⟩
    cases k with
    | true => exact ⟨p, F1, env, w1, iv.step g1 pn1, h3⟩
    | false => exact Post.here h3 g1.fh pn1 rx
theorem x_or {rest : List Expr} (ha : PE X a (tX X.K T W fa)) (hb : PE X (.BoolOp .Or (b :: rest) pos) (tX X.K T W fb)) : PE X (.BoolOp .Or (a :: b :: rest) pos) (tX X.K T W (xor fa fb)) :=
  imE (pe_orT ha hb) fun σ H Q ⟨p, F, env, w, iv, h⟩ => by
    refine ⟨p, F, env, w, iv, Post.bind h fun x w1 v F1 H1 e1 g1 pn1 rx h1 => ?_⟩
    obtain ⟨k, e, h3⟩ := Post.opt h1
    refine ⟨k, tru_of g1.fh rx e, ?_⟩
    cases k with
    | false => exact ⟨p, F1, env, w1, iv.step g1 pn1, h3⟩
    | true => exact Post.here h3 g1.fh pn1 rx
theorem x_not (ha : PE X a (tX X.K T W fa)) : PE X (.UnaryOp .Not a pos) (tX X.K T W (xnot fa)) :=
  imE (pe_notT ha) fun σ H Q ⟨p, F, env, w, iv, h⟩ => by
    refine ⟨p, F, env, w, iv, Post.bind h fun x w1 v F1 H1 e1 g1 pn1 rx h1 => ?_⟩
    obtain ⟨k, e, h3⟩ := Post.opt h1
    exact ⟨k, tru_of g1.fh rx e, Post.here h3 g1.fh pn1 (.bl _)⟩
theorem x_ife (hc : PT X c (tT X.K T W tc)) (ha : PE X a (tX X.K T W fa)) (hb : PE X b (tX X.K T W fb)) : PE X (.IfExp c a b pos) (tX X.K T W (xife tc fa fb)) :=
  imE (pe_ifExp hc ha hb) fun σ H Q ⟨p, F, env, w, iv, h⟩ => by
    refine ⟨p, F, env, w, iv, Post.bind h fun x w1 v F1 H1 e1 g1 pn1 rx h1 => ?_⟩
    cases (show v = x from rx)
    cases x with
    | true => exact ⟨p, F1, env, w1, iv.step g1 pn1, h1⟩
    | false => exact ⟨p, F1, env, w1, iv.step g1 pn1, h1⟩
/-- a < b < c -/
theorem chn_of {r r' : R2} {o o' : Co} (h2 : ByD r X.K T W (coF o)) (h2' : ByD r' X.K T W (coF o')) : ∀ σ H Q, tX X.K T W (xchn o o' fa fb fc) σ H Q → tChain r r' (tX X.K T W fa) (tX X.K T W fb) (tX X.K T W fc) σ H Q := by
  rintro σ H Q ⟨p, F, env, w, iv, h⟩
  refine ⟨p, F, env, w, iv, Post.bind h fun x w1 v F1 H1 e1 g1 pn1 rx h1 => ?_⟩
  refine ⟨p, F1, env, w1, iv.step g1 pn1, Post.bind h1 fun y w2 u F2 H2 e2 g2 pn2 ry h3 => ?_⟩
  obtain ⟨z, e, h4⟩ := Post.opt h3
  obtain ⟨k, rfl⟩ := coF_bl e
  refine h2 p F2 H2 w2 v u x y (.bl k) _ g2.fh pn2 (rx.mono g2.ff) ry e ?_
  intro t F3 H3 g3 pn3 rt
  cases rt
  refine ⟨k, rfl, ?_⟩
  cases k with
  | true =>
    refine ⟨p, F3, env, w2, ((iv.step g1 pn1).step g2 pn2).step g3 pn3, Post.bind (h4.from g3) fun s w4 q F4 H4 e4 g4 pn4 rs h5 => ?_⟩
    obtain ⟨m, e5, h6⟩ := Post.opt1 h5
    exact h2' p F4 H4 w4 u q y s m _ g4.fh pn4 ((ry.mono g3.ff).mono g4.ff) rs e5 h6
  | false => exact Post.here (h4.from g3) g3.fh pn3 (.bl _)
theorem x_chn {op op' : CmpOp} {o o' : Co} (hc : CR X T W op o) (hc' : CR X T W op' o') (ha : PE X a (tX X.K T W fa)) (hb : PE X b (tX X.K T W fb)) (hd : PE X c (tX X.K T W fc)) (hm : lastMarks [op, op'] [b, c] = false := by with_unfolding_all rfl) :
    PE X (.Compare a [op, op'] [b, c] pos) (tX X.K T W (xchn o o' fa fb fc)) := by
  obtain ⟨r, h1, h2⟩ := hc.ex
  obtain ⟨r', h1', h2'⟩ := hc'.ex
  exact imE (pe_chain h1 h1' ha hb hd hm) (chn_of h2 h2')
theorem xchn_bl {o o' : Co} {σ : En} {w w1 : Pn} {d : D} (h : xchn o o' fa fb fc σ w = some (.ok d w1)) : ∃ k, d = .bl k := by
  obtain ⟨x, w2, h1, h2⟩ := bnd_ok_of h
  obtain ⟨y, w3, h3, h4⟩ := bnd_ok_of h2
  obtain ⟨z, w4, h5, h6⟩ := bnd_ok_of h4
  obtain ⟨k, rfl⟩ := coF_bl (opt_ok_of h5).1
  cases k with
  | true =>
    obtain ⟨s, w5, h7, h8⟩ := bnd_ok_of h6
    exact coF_bl (opt_ok_of h8).1
  | false => cases h6; exact ⟨_, rfl⟩
theorem t_chn {op op' : CmpOp} {o o' : Co} (hc : CR X T W op o) (hc' : CR X T W op' o') (ha : PE X a (tX X.K T W fa)) (hb : PE X b (tX X.K T W fb)) (hd : PE X c (tX X.K T W fc)) (hm : lastMarks [op, op'] [b, c] = false := by with_unfolding_all rfl) :
    PT X (.Compare a [op, op'] [b, c] pos) (tT X.K T W (xtru (xchn o o' fa fb fc))) := by
  obtain ⟨r, h1, h2⟩ := hc.ex
  obtain ⟨r', h1', h2'⟩ := hc'.ex
  refine imT (pt_chain h1 h1' ha hb hd hm) fun σ H Q ⟨p, F, env, w, iv, h⟩ => ?_
  refine chn_of h2 h2' σ H _ ⟨p, F, env, w, iv, ?_⟩
  refine Post.bind h fun x w1 v F1 H1 e1 g1 pn1 rx h1 => ?_
  obtain ⟨k, e, h3⟩ := Post.opt1 h1
  obtain ⟨j, rfl⟩ := xchn_bl e1
  cases rx
  cases e
  exact ⟨_, rfl, h3.here g1.fh pn1 rfl⟩

/-! ### argument lists, displays -/
variable {e : Expr} {es : List Expr} {fe : XF} {fs : AF}
theorem a_nil : PA X [] (tA X.K T W anil) := imA pa_nil fun σ H Q ⟨p, F, env, w, iv, h⟩ => Post.here h iv.sub iv.pen .nil
theorem a_cons (ha : PE X e (tX X.K T W fe)) (hr : PA X es (tA X.K T W fs)) (hs : starEach (e :: es) X.env = (false, eval e X.env) :: starEach es X.env := by rfl) : PA X (e :: es) (tA X.K T W (acons fe fs)) :=
  imA (pa_cons ha hr hs) fun σ H Q ⟨p, F, env, w, iv, h⟩ => by
    refine ⟨p, F, env, w, iv, Post.bind h fun x w1 v F1 H1 e1 g1 pn1 rx h1 => ?_⟩
    refine ⟨p, F1, env, w1, iv.step g1 pn1, Post.bind h1 fun y w2 u F2 H2 e2 g2 pn2 ry h3 => ?_⟩
    exact Post.here h3 g2.fh pn2 (.cons (rx.mono g2.ff) ry)
theorem x_tup {k : Nat} (h : PA X es (tA X.K T W fs)) : PE X (.Tuple es k pos) (tX X.K T W (xtup fs)) :=
  imE (pe_tup h) fun σ H Q ⟨p, F, env, w, iv, h⟩ => by
    refine ⟨p, F, env, w, iv, Post.bind h fun x w1 v F1 H1 e1 g1 pn1 rx h1 => ?_⟩
    split at h1
    · rename_i z
      refine ⟨by rw [rx.length]; exact of_decide_eq_true z, fun q hq => new_ok (α := Unit) h1 g1.fh pn1 hq fun F' eF hF => .tup (SqT.of hF) (rx.mono eF)⟩
    · exact h1.elim
theorem x_lst (h : PA X es (tA X.K T W fs)) : PE X (.List es pos) (tX X.K T W (xlst fs)) :=
  imE (pe_lst h) fun σ H Q ⟨p, F, env, w, iv, h⟩ => by
    refine ⟨p, F, env, w, iv, Post.bind h fun x w1 v F1 H1 e1 g1 pn1 rx h1 => ?_⟩
    split at h1
    · rename_i z
      refine ⟨by rw [rx.length]; exact of_decide_eq_true z, fun q hq => new_ok (α := Unit) h1 g1.fh pn1 hq fun F' eF hF => .lst hF (rx.mono eF)⟩
    · exact h1.elim
theorem x_dic : PE X (.Dict [] [] pos) (tX X.K T W xdic) := imE pe_dnewK fun σ H Q ⟨p, F, env, w, iv, h⟩ => fun q hq => new_ok (α := Unit) h iv.sub iv.pen hq fun F' eF hF => .dic0 hF

/-! ### items -/
theorem byD_idx : ByD (rIx X.K) X.K T W idxF := by
  intro p F H w x y a b d Q e pn rx ry h q
  cases rx with
  | tup h1 r1 =>
    cases ry with
    | int i =>
      obtain ⟨v, h2, h3⟩ := r1.atI (show L2.atI _ i = some d from h)
      exact .inr (.inl ⟨_, _, i, v, rfl, rfl, e.t h1, h2, q.here e pn h3⟩)
    | _ => simp [idxF] at h
  | lst h1 r1 =>
    cases ry with
    | int i =>
      obtain ⟨v, h2, h3⟩ := r1.atI (show L2.atI _ i = some d from h)
      exact .inl ⟨_, _, i, v, rfl, rfl, SqL.of (e _ _ h1), h2, q.here e pn h3⟩
    | _ => simp [idxF] at h
  | _ => simp [idxF] at h
theorem x_idx (ha : PE X a (tX X.K T W fa)) (hb : PE X b (tX X.K T W fb)) (hs : PlainIx b := by exact fun _ _ => rfl) : PE X (.Subscript a b pos) (tX X.K T W (xidx fa fb)) := imE (pe_ix ix_seq ha hb hs) (bin_of rfl rfl byD_idx)
/-- an item of a list that the def changes -/
theorem x_idxM (i : Nat) {x : Str} {p2 : Pos} (hb : PE X b (tX X.K T W fb)) (hs : PlainIx b := by exact fun _ _ => rfl) (hN : X.N[i]? = some x := by rfl) (hv : Vis X.env.scope x := by first | exact Or.inl rfl | exact Or.inr (Or.inl rfl) | exact Or.inr (Or.inr rfl)) (hd : (x == ("__debug__" : Str)) = false := by decide)
    (hcd : (x == ("__classdict__" : Str)) = false := by decide) : PE X (.Subscript (.Name x p2) b pos) (tX X.K T W (xidxM i fb)) := imE (pe_ix ix_seq (pe_var hN hv hd hcd) hb hs) fun σ H Q ⟨p, F, env, w, iv, h⟩ => by
  obtain ⟨l, e, h⟩ := Post.opt h
  obtain ⟨a, vs, h1, h2, h3, h4, h5⟩ := iv.chg i l (mslot_some e)
  refine ⟨_, h1, p, F, env, w, iv, Post.bind h fun y w2 u F2 H2 e2 g2 pn2 ry h3 => ?_⟩
  obtain ⟨d, e3, h6⟩ := Post.opt1 h3
  cases ry with
  | int j =>
    obtain ⟨v, h7, h8⟩ := (h5.mono g2.ff).atI (show L2.atI _ j = some d from e3)
    exact .inl ⟨_, _, j, v, rfl, rfl, SqL.of (g2.keep _ _ h4 (nt_lst _) h2), h7, h6.here g2.fh pn2 h8⟩
  | _ => simp [idxF] at e3
/-! ### built-ins -/
theorem bui_of {r : List V → Hp → VK → Prop} {bu : Bu} (hr : ∀ (p : Addr) (F H : Hp) (w : Pn) (vs : List V) (ds : List D) (d : D) (Q : VK), Ext F H → Pen T p F H w → Rps X.K T p F vs ds → buF bu ds = some d → Post X.K T (RV X.K T) (some (.ok d w)) p F H Q W → r vs H Q) :
    ∀ σ H Q, tX X.K T W (xbui bu fs) σ H Q → tCB r (tA X.K T W fs) σ H Q := by
  rintro σ H Q ⟨p, F, env, w, iv, h⟩
  refine ⟨p, F, env, w, iv, Post.bind h fun x w1 v F1 H1 e1 g1 pn1 rx h1 => ?_⟩
  obtain ⟨d, e, h3⟩ := Post.opt1 h1
  exact hr p F1 H1 w1 v x d Q g1.fh pn1 rx e h3
theorem one_of {K : PySem.W.Frag} {p : Addr} {F : Hp} {vs : List V} {d : D} (h : Rps K T p F vs [d]) : ∃ v, vs = [v] ∧ Rp K T p F v d := by
  cases h with
  | cons h1 h2 => cases h2; exact ⟨_, rfl, h1⟩
theorem two_of {K : PySem.W.Frag} {p : Addr} {F : Hp} {vs : List V} {d e : D} (h : Rps K T p F vs [d, e]) : ∃ v u, vs = [v, u] ∧ Rp K T p F v d ∧ Rp K T p F u e := by
  cases h with
  | cons h1 h2 => obtain ⟨u, rfl, h3⟩ := one_of h2; exact ⟨_, u, rfl, h1, h3⟩
theorem seq_of {K : PySem.W.Frag} {p : Addr} {F H : Hp} {v : V} {d : D} {l : List D} (e : Ext F H) (h : Rp K T p F v d) (q : seqOf d = some l) : ∃ a xs, v = .ref a ∧ (SqL K H a xs ∨ SqT K H a xs) ∧ Rps K T p F xs l := by
  cases h with
  | tup h1 r1 => cases q; exact ⟨_, _, rfl, .inr (e.t h1), r1⟩
  | lst h1 r1 => cases q; exact ⟨_, _, rfl, .inl (SqL.of (e _ _ h1)), r1⟩
  | _ => simp [seqOf] at q
variable {p1 : Pos}
theorem len_D {ds : List D} {d : D} (h : buF .len ds = some d) : ∃ x l, ds = [x] ∧ seqOf x = some l ∧ d = .int l.length := by
  match ds, h with
  | [.tup l], h => cases h; exact ⟨_, l, rfl, rfl, rfl⟩
  | [.lst l], h => cases h; exact ⟨_, l, rfl, rfl, rfl⟩
theorem x_len (hm : X.mg "len" = none) (ha : PE X a (tX X.K T W fa)) (hg : Gl X "len" := by rfl) (hs : starEach (a :: []) X.env = (false, eval a X.env) :: starEach [] X.env := by rfl) : PE X (.Call (.Name "len" p1) [a] [] pos) (tX X.K T W (xbui .len (acons fa anil))) :=
  imE (pe_callB call_len_seq hg hm PySem.boot_len (a_cons ha a_nil hs) (by decide) (by decide) hs (by rfl)) (bui_of fun p F H w vs ds d Q e pn rs h q => by
    obtain ⟨x, l, rfl, h1, rfl⟩ := len_D h
    obtain ⟨v, rfl, rx⟩ := one_of rs
    obtain ⟨a, xs, rfl, h2, h3⟩ := seq_of e rx h1
    refine ⟨a, xs, rfl, h2, ?_⟩
    rw [h3.length]
    exact q.here e pn (.int _))
end
end Rh
set_option Elab.async false
set_option linter.all false
set_option maxRecDepth 100000
set_option maxHeartbeats 1000000
/-! Rh: more built-ins, fields, isinstance, calls by data. -/
namespace Rh
open PySem L2 PySem.Spec PyProof.Rows
section
variable {X : Cx} {T : Tx} {W : XK} {pos p1 : Pos} {a b c : Expr} {fa fb fc : XF} {es : List Expr} {fs : AF}
theorem tuple_D {ds : List D} {d : D} (h : buF .tuple ds = some d) : ∃ l, (ds = [.tup l] ∨ ds = [.lst l]) ∧ d = .tup l := by
  match ds, h with
  | [.tup l], h => cases h; exact ⟨l, .inl rfl, rfl⟩
  | [.lst l], h => cases h; exact ⟨l, .inr rfl, rfl⟩
theorem x_tuple (hm : X.mg "tuple" = none) (ha : PE X a (tX X.K T W fa)) (hg : Gl X "tuple" := by rfl) (hs : starEach (a :: []) X.env = (false, eval a X.env) :: starEach [] X.env := by rfl) : PE X (.Call (.Name "tuple" p1) [a] [] pos) (tX X.K T W (xbui .tuple (acons fa anil))) :=
  imE (pe_callTy call_tuple_of hg hm PyProof.Rows.boot_tuple (a_cons ha a_nil hs) (by decide) (by decide) hs (by rfl)) (bui_of fun p F H w vs ds d Q e pn rs h q => by
    obtain ⟨l, h1, rfl⟩ := tuple_D h
    rcases h1 with rfl | rfl
    · obtain ⟨v, rfl, rx⟩ := one_of rs
      cases rx with
      | tup h2 r2 => exact ⟨_, _, rfl, .inr ⟨e.t h2, q.here e pn (.tup h2 r2)⟩⟩
    · obtain ⟨v, rfl, rx⟩ := one_of rs
      cases rx with
      | lst h2 r2 => exact ⟨_, _, rfl, .inl ⟨SqL.of (e _ _ h2), fun l hl => new_ok (α := Unit) q e pn hl fun F' eF hF => .tup (SqT.of hF) (r2.mono eF)⟩⟩)
/-- a tuple of a list that the def changes -/
theorem x_tupM (i : Nat) {x : Str} {p2 : Pos} (hm : X.mg "tuple" = none) (hg : Gl X "tuple" := by rfl) (hN : X.N[i]? = some x := by rfl) (hv : Vis X.env.scope x := by first | exact Or.inl rfl | exact Or.inr (Or.inl rfl) | exact Or.inr (Or.inr rfl)) (hd : (x == ("__debug__" : Str)) = false := by decide)
    (hcd : (x == ("__classdict__" : Str)) = false := by decide) : PE X (.Call (.Name "tuple" p1) [.Name x p2] [] pos) (tX X.K T W (xtupM i)) :=
  imE (pe_callTy call_tuple_of hg hm PyProof.Rows.boot_tuple (pa_cons (pe_var hN hv hd hcd) pa_nil) (by decide) (by decide) (by rfl) (by rfl)) fun σ H Q ⟨p, F, env, w, iv, h⟩ => by
    obtain ⟨d, e, h⟩ := Post.opt1 h
    simp only [Option.map_eq_some_iff] at e
    obtain ⟨l, e, rfl⟩ := e
    obtain ⟨a, vs, h1, h2, h3, h4, h5⟩ := iv.chg i l (mslot_some e)
    exact ⟨_, h1, a, vs, rfl, .inl ⟨SqL.of h2, fun l hl => new_ok (α := Unit) h iv.sub iv.pen hl fun F' eF hF => .tup (SqT.of hF) (h5.mono eF)⟩⟩
/-- its length -/
theorem x_lenM (i : Nat) {x : Str} {p2 : Pos} (hm : X.mg "len" = none) (hg : Gl X "len" := by rfl) (hN : X.N[i]? = some x := by rfl) (hv : Vis X.env.scope x := by first | exact Or.inl rfl | exact Or.inr (Or.inl rfl) | exact Or.inr (Or.inr rfl)) (hd : (x == ("__debug__" : Str)) = false := by decide)
    (hcd : (x == ("__classdict__" : Str)) = false := by decide) : PE X (.Call (.Name "len" p1) [.Name x p2] [] pos) (tX X.K T W (xlenM i)) :=
  imE (pe_callB call_len_seq hg hm PySem.boot_len (pa_cons (pe_var hN hv hd hcd) pa_nil) (by decide) (by decide) (by rfl) (by rfl)) fun σ H Q ⟨p, F, env, w, iv, h⟩ => by
    obtain ⟨d, e, h⟩ := Post.opt1 h
    simp only [Option.map_eq_some_iff] at e
    obtain ⟨l, e, rfl⟩ := e
    obtain ⟨a, vs, h1, h2, h3, h4, h5⟩ := iv.chg i l (mslot_some e)
    refine ⟨_, h1, a, vs, rfl, .inl (SqL.of h2), ?_⟩
    rw [h5.length]
    exact h.here iv.sub iv.pen (.int _)
theorem list_D {ds : List D} {d : D} (h : buF .list ds = some d) : ∃ x l, ds = [x] ∧ seqOf x = some l ∧ d = .lst l := by
  match ds, h with
  | [.tup l], h => cases h; exact ⟨_, l, rfl, rfl, rfl⟩
  | [.lst l], h => cases h; exact ⟨_, l, rfl, rfl, rfl⟩
theorem x_list (hm : X.mg "list" = none) (ha : PE X a (tX X.K T W fa)) (hg : Gl X "list" := by rfl) (hs : starEach (a :: []) X.env = (false, eval a X.env) :: starEach [] X.env := by rfl) : PE X (.Call (.Name "list" p1) [a] [] pos) (tX X.K T W (xbui .list (acons fa anil))) :=
  imE (pe_callTy call_list_of hg hm PyProof.Rows.boot_list (a_cons ha a_nil hs) (by decide) (by decide) hs (by rfl)) (bui_of fun p F H w vs ds d Q e pn rs h q => by
    obtain ⟨x, l, rfl, h1, rfl⟩ := list_D h
    obtain ⟨v, rfl, rx⟩ := one_of rs
    obtain ⟨a, xs, rfl, h2, h3⟩ := seq_of e rx h1
    exact ⟨a, xs, rfl, h2, fun l hl => new_ok (α := Unit) q e pn hl fun F' eF hF => .lst hF (h3.mono eF)⟩)
theorem all_D {ds : List D} {d : D} (h : buF .all ds = some d) : ∃ l bs, ds = [.lst l] ∧ boolsOf l = some bs ∧ d = .bl (bs.all id) := by
  match ds, h with
  | [.lst l], h =>
    simp only [buF, Option.map_eq_some_iff] at h
    obtain ⟨bs, e, rfl⟩ := h
    exact ⟨l, bs, rfl, e, rfl⟩
theorem x_all (hc : X.calm = true) (hm : X.mg "all" = none) (ha : PE X a (tX X.K T W fa)) (hg : Gl X "all" := by rfl) (hs : starEach (a :: []) X.env = (false, eval a X.env) :: starEach [] X.env := by rfl) : PE X (.Call (.Name "all" p1) [a] [] pos) (tX X.K T W (xbui .all (acons fa anil))) :=
  imE (pe_callB (cr_all hc) hg hm PyProof.Rows.boot_all (a_cons ha a_nil hs) (by decide) (by decide) hs (by rfl)) (bui_of fun p F H w vs ds d Q e pn rs h q => by
    obtain ⟨l, bs, rfl, h1, rfl⟩ := all_D h
    obtain ⟨v, rfl, rx⟩ := one_of rs
    cases rx with
    | lst h2 r2 =>
      have z := r2.bools h1
      subst z
      exact ⟨_, bs, rfl, SqL.of (e _ _ h2), q.here e pn (.bl _)⟩)
theorem sum_D {ds : List D} {d : D} (h : buF .sum ds = some d) : ∃ l ns, ds = [.lst l] ∧ intsOf l = some ns ∧ d = .int ns.sum := by
  match ds, h with
  | [.lst l], h =>
    simp only [buF, Option.map_eq_some_iff] at h
    obtain ⟨bs, e, rfl⟩ := h
    exact ⟨l, bs, rfl, e, rfl⟩
theorem x_sum (hc : X.calm = true) (hm : X.mg "sum" = none) (ha : PE X a (tX X.K T W fa)) (hg : Gl X "sum" := by rfl) (hs : starEach (a :: []) X.env = (false, eval a X.env) :: starEach [] X.env := by rfl) : PE X (.Call (.Name "sum" p1) [a] [] pos) (tX X.K T W (xbui .sum (acons fa anil))) :=
  imE (pe_callB (cr_sum hc) hg hm PyProof.Rows.boot_sum (a_cons ha a_nil hs) (by decide) (by decide) hs (by rfl)) (bui_of fun p F H w vs ds d Q e pn rs h q => by
    obtain ⟨l, ns, rfl, h1, rfl⟩ := sum_D h
    obtain ⟨v, rfl, rx⟩ := one_of rs
    cases rx with
    | lst h2 r2 =>
      have z := r2.ints h1
      subst z
      exact ⟨_, ns, rfl, SqL.of (e _ _ h2), q.here e pn (.int _)⟩)
theorem maxF_spec : ∀ (r : List Int) (a : Int), (r.foldl (fun m x => if m < x then x else m) a ∈ a :: r) ∧ ∀ y, y ∈ a :: r → y ≤ r.foldl (fun m x => if m < x then x else m) a
  | [], a => ⟨by simp, fun y h => by simp at h; simp [h]⟩
  | b :: r, a => by
    obtain ⟨h1, h2⟩ := maxF_spec r (if a < b then b else a)
    rw [List.foldl_cons]
    constructor
    · rcases List.mem_cons.mp h1 with h | h
      · rw [h]; split <;> simp
      · exact List.mem_cons_of_mem _ (List.mem_cons_of_mem _ h)
    · intro y hy
      have hb := h2 _ List.mem_cons_self
      generalize List.foldl _ _ r = M at *
      rcases List.mem_cons.mp hy with rfl | hy
      · split at hb <;> omega
      · rcases List.mem_cons.mp hy with rfl | hy
        · split at hb <;> omega
        · exact h2 y (List.mem_cons_of_mem _ hy)
theorem minF_spec : ∀ (r : List Int) (a : Int), (r.foldl (fun m x => if x < m then x else m) a ∈ a :: r) ∧ ∀ y, y ∈ a :: r → r.foldl (fun m x => if x < m then x else m) a ≤ y
  | [], a => ⟨by simp, fun y h => by simp at h; simp [h]⟩
  | b :: r, a => by
    obtain ⟨h1, h2⟩ := minF_spec r (if b < a then b else a)
    rw [List.foldl_cons]
    constructor
    · rcases List.mem_cons.mp h1 with h | h
      · rw [h]; split <;> simp
      · exact List.mem_cons_of_mem _ (List.mem_cons_of_mem _ h)
    · intro y hy
      have hb := h2 _ List.mem_cons_self
      generalize List.foldl _ _ r = M at *
      rcases List.mem_cons.mp hy with rfl | hy
      · split at hb <;> omega
      · rcases List.mem_cons.mp hy with rfl | hy
        · split at hb <;> omega
        · exact h2 y (List.mem_cons_of_mem _ hy)
theorem maxL_spec {ns : List Int} {m : Int} (h : maxL ns = some m) : m ∈ ns ∧ ∀ y, y ∈ ns → y ≤ m := by
  cases ns with
  | nil => cases h
  | cons a r => cases h; exact maxF_spec r a
theorem minL_spec {ns : List Int} {m : Int} (h : minL ns = some m) : m ∈ ns ∧ ∀ y, y ∈ ns → m ≤ y := by
  cases ns with
  | nil => cases h
  | cons a r => cases h; exact minF_spec r a
theorem max_D {ds : List D} {d : D} (h : buF .max ds = some d) : ∃ l ns m, ds = [.lst l] ∧ intsOf l = some ns ∧ maxL ns = some m ∧ d = .int m := by
  match ds, h with
  | [.lst l], h =>
    simp only [buF, Option.bind_eq_some_iff, Option.map_eq_some_iff] at h
    obtain ⟨ns, e, m, e2, rfl⟩ := h
    exact ⟨l, ns, m, rfl, e, e2, rfl⟩
theorem min_D {ds : List D} {d : D} (h : buF .min ds = some d) : ∃ l ns m, ds = [.lst l] ∧ intsOf l = some ns ∧ minL ns = some m ∧ d = .int m := by
  match ds, h with
  | [.lst l], h =>
    simp only [buF, Option.bind_eq_some_iff, Option.map_eq_some_iff] at h
    obtain ⟨ns, e, m, e2, rfl⟩ := h
    exact ⟨l, ns, m, rfl, e, e2, rfl⟩
theorem x_max (hc : X.calm = true) (hm : X.mg "max" = none) (ha : PE X a (tX X.K T W fa)) (hg : Gl X "max" := by rfl) (hs : starEach (a :: []) X.env = (false, eval a X.env) :: starEach [] X.env := by rfl) : PE X (.Call (.Name "max" p1) [a] [] pos) (tX X.K T W (xbui .max (acons fa anil))) :=
  imE (pe_callB (cr_max hc) hg hm PyProof.Rows.boot_max (a_cons ha a_nil hs) (by decide) (by decide) hs (by rfl)) (bui_of fun p F H w vs ds d Q e pn rs h q => by
    obtain ⟨l, ns, m, rfl, h1, h0, rfl⟩ := max_D h
    obtain ⟨v, rfl, rx⟩ := one_of rs
    cases rx with
    | lst h2 r2 =>
      have z := r2.ints h1
      subst z
      obtain ⟨s1, s2⟩ := maxL_spec h0
      refine ⟨_, ns, rfl, SqL.of (e _ _ h2), List.length_pos_of_mem s1, fun k hk hle => ?_⟩
      have : k = m := Int.le_antisymm (s2 k hk) (hle m s1)
      subst this
      exact q.here e pn (.int _))
theorem x_min (hc : X.calm = true) (hm : X.mg "min" = none) (ha : PE X a (tX X.K T W fa)) (hg : Gl X "min" := by rfl) (hs : starEach (a :: []) X.env = (false, eval a X.env) :: starEach [] X.env := by rfl) : PE X (.Call (.Name "min" p1) [a] [] pos) (tX X.K T W (xbui .min (acons fa anil))) :=
  imE (pe_callB (cr_min hc) hg hm PyProof.Rows.boot_min (a_cons ha a_nil hs) (by decide) (by decide) hs (by rfl)) (bui_of fun p F H w vs ds d Q e pn rs h q => by
    obtain ⟨l, ns, m, rfl, h1, h0, rfl⟩ := min_D h
    obtain ⟨v, rfl, rx⟩ := one_of rs
    cases rx with
    | lst h2 r2 =>
      have z := r2.ints h1
      subst z
      obtain ⟨s1, s2⟩ := minL_spec h0
      refine ⟨_, ns, rfl, SqL.of (e _ _ h2), List.length_pos_of_mem s1, fun k hk hle => ?_⟩
      have : k = m := Int.le_antisymm (hle m s1) (s2 k hk)
      subst this
      exact q.here e pn (.int _))
theorem gcd_D {ds : List D} {d : D} (h : buF .gcd ds = some d) : ∃ i j, ds = [.int i, .int j] ∧ d = .int ((Nat.gcd i.natAbs j.natAbs : Nat) : Int) := by
  match ds, h with
  | [.int i, .int j], h => cases h; exact ⟨i, j, rfl, rfl⟩
theorem x_gcd (hm : X.mg "gcd" = some (.builtin "math.gcd")) (ha : PE X a (tX X.K T W fa)) (hb : PE X b (tX X.K T W fb)) (hg : Gl X "gcd" := by rfl) (hs : starEach (a :: [b]) X.env = (false, eval a X.env) :: starEach [b] X.env := by rfl) (hs2 : starEach (b :: []) X.env = (false, eval b X.env) :: starEach [] X.env := by rfl)
    (hpl : (backTo pos (starEach [b] X.env)).any (·.1) = false := by rfl) : PE X (.Call (.Name "gcd" p1) [a, b] [] pos) (tX X.K T W (xbui .gcd (acons fa (acons fb anil)))) :=
  imE (pe_callBfun cr_gcd hg hm (a_cons ha (a_cons hb a_nil hs2) hs) (by decide) hs hpl) (bui_of fun p F H w vs ds d Q e pn rs h q => by
    obtain ⟨i, j, rfl, rfl⟩ := gcd_D h
    obtain ⟨v, u, rfl, r1, r2⟩ := two_of rs
    cases r1
    cases r2
    exact ⟨i, j, rfl, q.here e pn (.int _)⟩)
theorem abs_D {ds : List D} {d : D} (h : buF .abs ds = some d) : ∃ i, ds = [.int i] ∧ d = .int (if i < 0 then -i else i) := by
  match ds, h with
  | [.int i], h => cases h; exact ⟨i, rfl, rfl⟩
theorem x_abs (hm : X.mg "abs" = none) (ha : PE X a (tX X.K T W fa)) (hg : Gl X "abs" := by rfl) (hs : starEach (a :: []) X.env = (false, eval a X.env) :: starEach [] X.env := by rfl) : PE X (.Call (.Name "abs" p1) [a] [] pos) (tX X.K T W (xbui .abs (acons fa anil))) :=
  imE (pe_callB call_abs hg hm PyProof.Rows.boot_abs (a_cons ha a_nil hs) (by decide) (by decide) hs (by rfl)) (bui_of fun p F H w vs ds d Q e pn rs h q => by
    obtain ⟨i, rfl, rfl⟩ := abs_D h
    obtain ⟨v, rfl, rx⟩ := one_of rs
    cases rx
    exact ⟨i, rfl, q.here e pn (.int _)⟩)
theorem int_D {ds : List D} {d : D} (h : buF .int ds = some d) : (∃ i, ds = [.int i] ∧ d = .int i) ∨ ∃ k, ds = [.bl k] ∧ d = .int (if k then 1 else 0) := by
  match ds, h with
  | [.int i], h => cases h; exact .inl ⟨i, rfl, rfl⟩
  | [.bl k], h => cases h; exact .inr ⟨k, rfl, rfl⟩
theorem x_toint (hm : X.mg "int" = none) (ha : PE X a (tX X.K T W fa)) (hg : Gl X "int" := by rfl) (hs : starEach (a :: []) X.env = (false, eval a X.env) :: starEach [] X.env := by rfl) : PE X (.Call (.Name "int" p1) [a] [] pos) (tX X.K T W (xbui .int (acons fa anil))) :=
  imE (pe_callTy call_int1 hg hm PyProof.Rows.boot_int (a_cons ha a_nil hs) (by decide) (by decide) hs (by rfl)) (bui_of fun p F H w vs ds d Q e pn rs h q => by
    rcases int_D h with ⟨i, rfl, rfl⟩ | ⟨k, rfl, rfl⟩
    · obtain ⟨v, rfl, rx⟩ := one_of rs
      cases rx
      exact .inl ⟨i, rfl, q.here e pn (.int _)⟩
    · obtain ⟨v, rfl, rx⟩ := one_of rs
      cases rx
      exact .inr ⟨k, rfl, q.here e pn (.int _)⟩)

/-! ### fields -/
/-- of the class c: it is a plain one, n is the place of the field f -/
structure FldOk (K : PySem.W.Frag) (T : Tx) (c n : Nat) (f : Str) : Prop where
  cl : Cls K (T.ca c)
  no : NoAttr K (T.ca c) f
  at_ : (T.fnm c)[n]? = some f
  nd : (T.fnm c).Nodup
theorem lookup_at {fs : List (Str × V)} {f : Str} : ∀ {n : Nat} {v : V}, (fs.map (·.1))[n]? = some f → (fs.map (·.1)).Nodup → (fs.map (·.2))[n]? = some v → fs.lookup f = some v := by
  induction fs with
  | nil => intro n v h; simp at h
  | cons q r ih =>
    intro n v h1 h2 h3
    obtain ⟨x, y⟩ := q
    cases n with
    | zero =>
      simp at h1 h3
      subst h1 h3
      simp [List.lookup]
    | succ n =>
      simp only [List.map_cons, List.getElem?_cons_succ] at h1 h3
      simp only [List.map_cons, List.nodup_cons] at h2
      have hne : (f == x) = false := by
        refine beq_eq_false_iff_ne.mpr fun z => h2.1 ?_
        subst z
        exact List.mem_of_getElem? h1
      rw [List.lookup_cons, hne]
      exact ih h1 h2.2 h3
theorem x_fld {f : Str} {cn n : Nat} (hf : FldOk X.K T cn n f) (ha : PE X a (tX X.K T W fa)) (hb : attributeBase a f X.env (eval a X.env) = eval a X.env := by rfl) : PE X (.Attribute a f pos) (tX X.K T W (xfld fa cn n)) :=
  imE (pe_fld ha hb) fun σ H Q ⟨p, F, env, w, iv, h⟩ => by
    refine ⟨p, F, env, w, iv, Post.bind h fun x w1 v F1 H1 e1 g1 pn1 rx h1 => ?_⟩
    obtain ⟨d, e, h3⟩ := Post.opt1 h1
    cases rx with
    | ins h2 hn r2 =>
      simp only at e
      split at e
      · rename_i z
        subst z
        obtain ⟨v, h4, h5⟩ := r2.get e
        exact ⟨_, _, _, _, v, rfl, g1.fh _ _ h2, hf.cl, hf.no, lookup_at (by rw [hn]; exact hf.at_) (by rw [hn]; exact hf.nd) h4, h3.here g1.fh pn1 h5⟩
      · cases e
    | _ => simp at e
end
end Rh
set_option Elab.async false
set_option linter.all false
set_option maxRecDepth 100000
set_option maxHeartbeats 1000000
/-! Rh: what is walked, by data. -/
namespace Rh
open PySem L2 PySem.Spec PyProof.Rows
/-- the walk yields these data, wherever what is fixed stays -/
structure ItOk (K : PySem.W.Frag) (T : Tx) (p : Addr) (F0 : Hp) (J : It) (ds : List D) : Prop where
  go : ∀ (i : Nat) (F H : Hp), Ext F0 F → Ext F H → i < ds.length → J.go i H
  stop : ∀ (F H : Hp), Ext F0 F → Ext F H → J.stop ds.length H
  yld : ∀ (i : Nat) (F H : Hp) (w : Pn) (x : V) (H' : Hp), Ext F0 F → Ext F H → Pen T p F H w → i < ds.length → J.yld i H x H' → ∃ d F', ds[i]? = some d ∧ Rp K T p F' x d ∧ Grow p F H F' H' ∧ Pen T p F' H' w
abbrev RI (K : PySem.W.Frag) (T : Tx) : Addr → Hp → Hp → It → List D → Prop := fun p F _ J ds => ItOk K T p F J ds
def tI (K : PySem.W.Frag) (T : Tx) (W : XK) (f : AF) : TI := fun σ H R => ∃ p F env w, IV K T p F H σ env w ∧ Post K T (RI K T) (f env w) p F H R W
theorem imI {X : Cx} {tg e : Expr} {t t' : TI} (h : PI X tg e t) (i : ∀ σ H Q, t' σ H Q → t σ H Q) : PI X tg e t' := ⟨fun pins s σ H Q I q => h.run pins s σ H Q I (i _ _ _ q)⟩
section
variable {K : PySem.W.Frag} {T : Tx} {p : Addr} {F : Hp}
theorem itok_list {a : Addr} {xs : List V} {ds : List D} (h : F a = some (.lst xs)) (r : Rps K T p F xs ds) : ItOk K T p F (Itl K a) ds where
  go := fun i F1 H e1 e2 hi => by
    obtain ⟨v, h1, h2⟩ := r.get (List.getElem?_eq_getElem hi)
    exact ⟨xs, v, SqL.of (e2 _ _ (e1 _ _ h)), h1⟩
  stop := fun F1 H e1 e2 => ⟨xs, SqL.of (e2 _ _ (e1 _ _ h)), by rw [r.length]; exact Nat.le_refl _⟩
  yld := fun i F1 H w x H' e1 e2 pn hi y => by
    obtain ⟨rfl, y⟩ := y
    obtain ⟨d, h1, h2⟩ := r.getV (y xs (SqL.of (e2 _ _ (e1 _ _ h))))
    exact ⟨d, F1, h1, h2.mono e1, Grow.refl e2, pn⟩
theorem itok_tup {a : Addr} {xs : List V} {ds : List D} (h : SqT K F a xs) (r : Rps K T p F xs ds) : ItOk K T p F (Itt K a) ds where
  go := fun i F1 H e1 e2 hi => by
    obtain ⟨v, h1, h2⟩ := r.get (List.getElem?_eq_getElem hi)
    exact ⟨xs, v, (e1.trans e2).t h, h1⟩
  stop := fun F1 H e1 e2 => ⟨xs, (e1.trans e2).t h, by rw [r.length]; exact Nat.le_refl _⟩
  yld := fun i F1 H w x H' e1 e2 pn hi y => by
    obtain ⟨rfl, y⟩ := y
    obtain ⟨d, h1, h2⟩ := r.getV (y xs ((e1.trans e2).t h))
    exact ⟨d, F1, h1, h2.mono e1, Grow.refl e2, pn⟩
theorem itok_range {n : Nat} : ItOk K T p F (Itr 0 n) ((List.range n).map fun i => .int (0 + (i : Nat))) where
  go := fun i F1 H e1 e2 hi => by
    have : i < n := by simpa using hi
    exact this
  stop := fun F1 H e1 e2 => by
    show n ≤ _
    simp
  yld := fun i F1 H w x H' e1 e2 pn hi y => by
    obtain ⟨rfl, rfl⟩ := y
    have hi : i < n := by simpa using hi
    exact ⟨_, F1, by rw [List.getElem?_map, List.getElem?_range hi]; rfl, .int _, Grow.refl e2, pn⟩
end
section
variable {X : Cx} {T : Tx} {W : XK} {pos p1 : Pos} {tg a b : Expr} {fa fb : XF}
/-- a list or a tuple -/
def iSeq (K : PySem.W.Frag) (tl : TE) : TI := fun σ H R => tl σ H fun x H1 => ∃ a, x = .ref a ∧ (((∃ xs, SqL K H1 a xs) ∧ R (Itl K a) H1) ∨ ((∃ xs, SqT K H1 a xs) ∧ R (Itt K a) H1))
theorem pi_seq {l : Expr} {tl : TE} (hl : PE X l tl) : PI X tg l (iSeq X.K tl) := by
  refine ⟨fun pins s σ H R I h => ?_⟩
  refine thn (hl.run pins s σ H _ I h) fun v s1 ⟨x, H1, I1, r1, q1⟩ => ?_
  obtain ⟨a, rfl, q1⟩ := q1
  cases r1
  rcases q1 with ⟨⟨xs, hq⟩, q⟩ | ⟨⟨xs, hq⟩, q⟩
  · obtain ⟨its, rv, p, hz⟩ := I1.list hq
    refine wpAny_pyIter_list p.isList ?_
    refine ⟨s1.heap.objs.size, [s1.heap.objs.size], _, _, H1, rfl, I1.kept (t' := s1.toks) fun b o e => Heap.get?_push_of_some _ e, turn_list a _, ⟨_, Heap.get?_push_size _ rfl, rfl, rfl⟩, fun b hb => ?_, q⟩
    have e : b = s1.heap.objs.size := by simpa using hb
    subst e
    exact I1.fpOk (Nat.le_refl _) (I1.hok.fresh (Nat.le_refl _))
  · obtain ⟨its, rv, p, hz⟩ := I1.tuple hq
    refine wpAny_pyIter_tuple (show s1.heap.IsTuple a its.toArray from p) ?_
    refine ⟨s1.heap.objs.size, [s1.heap.objs.size], _, _, H1, rfl, I1.kept (t' := s1.toks) fun b o e => Heap.get?_push_of_some _ e, turn_tuple a _, ⟨_, Heap.get?_push_size _ rfl, rfl, rfl⟩, fun b hb => ?_, q⟩
    have e : b = s1.heap.objs.size := by simpa using hb
    subst e
    exact I1.fpOk (Nat.le_refl _) (I1.hok.fresh (Nat.le_refl _))
theorem i_seq (ha : PE X a (tX X.K T W fa)) : PI X tg a (tI X.K T W (srcSeq fa)) := imI (pi_seq ha) fun σ H Q ⟨p, F, env, w, iv, h⟩ => by
  refine ⟨p, F, env, w, iv, Post.bind h fun x w1 v F1 H1 e1 g1 pn1 rx h1 => ?_⟩
  obtain ⟨l, e, h3⟩ := Post.opt1 h1
  cases rx with
  | tup h2 r2 => cases e; exact ⟨_, rfl, .inr ⟨⟨_, g1.fh.t h2⟩, h3.here g1.fh pn1 (itok_tup h2 r2)⟩⟩
  | lst h2 r2 => cases e; exact ⟨_, rfl, .inl ⟨⟨_, SqL.of (g1.fh _ _ h2)⟩, h3.here g1.fh pn1 (itok_list h2 r2)⟩⟩
  | _ => simp [seqOf] at e
theorem i_range (hm : X.mg "range" = none) (ha : PE X a (tX X.K T W fa)) (hg : Gl X "range" := by rfl) (hs : starEach [a] X.env = [(false, eval a X.env)] := by rfl) : PI X tg (.Call (.Name "range" p1) [a] [] pos) (tI X.K T W (srcRng1 fa)) :=
  imI (pi_range1 hg hm (pa_cons ha pa_nil (by rw [hs]; rfl)) hs) fun σ H Q ⟨p, F, env, w, iv, h⟩ => by
    refine ⟨p, F, env, w, iv, Post.bind h fun x w1 v F1 H1 e1 g1 pn1 rx h1 => ?_⟩
    cases rx with
    | int j =>
      simp only at h1
      split at h1
      · rename_i z
        simp only [bound62, Bool.and_eq_true, decide_eq_true_eq] at z
        exact ⟨j, rfl, z.1, z.2, Post.here h1 g1.fh pn1 itok_range⟩
      · exact h1.elim
    | _ => exact h1.elim
end
end Rh
set_option Elab.async false
set_option linter.all false
set_option maxRecDepth 100000
set_option maxHeartbeats 1000000
/-! Rh: enumerate and zip over lists and tuples. -/
namespace Rh
open PySem L2 PySem.Spec PyProof.Rows
def SqX (K : PySem.W.Frag) (b : Bool) (H : Hp) (a : Addr) (xs : List V) : Prop := match b with
  | true => SqL K H a xs
  | false => SqT K H a xs
def IterAt (b : Bool) (h : Heap) (it a : Addr) (i : Nat) : Prop := match b with
  | true => h.IsListIter it a i
  | false => h.IsTupleIter it a i
def IsAt (b : Bool) (h : Heap) (a : Addr) (its : Array Value) : Prop := match b with
  | true => h.IsList a its
  | false => h.IsTuple a its
theorem IterAt.obj {b : Bool} {h : Heap} {it a : Addr} {i : Nat} (q : IterAt b h it a i) : ∃ o, h.get? it = some o ∧ ∀ v, o.data ≠ .cell v := by
  cases b with
  | true => obtain ⟨o, ho, hc, hd⟩ := q; exact ⟨o, ho, fun v z => by rw [hd] at z; cases z⟩
  | false => obtain ⟨o, ho, hc, hd⟩ := q; exact ⟨o, ho, fun v z => by rw [hd] at z; cases z⟩
theorem IterAt.at' {b : Bool} {h h' : Heap} {it a : Addr} {i : Nat} (q : IterAt b h it a i) (k : ∀ o, h.get? it = some o → h'.get? it = some o) : IterAt b h' it a i := by
  cases b with
  | true => exact Heap.IsListIter.at q k
  | false => exact Heap.IsTupleIter.at q k
theorem IsAt.lt {b : Bool} {h : Heap} {a : Addr} {its : Array Value} (q : IsAt b h a its) : a < h.objs.size := by
  cases b with
  | true => obtain ⟨o, ho, _⟩ := q; exact Heap.lt_size ho
  | false => obtain ⟨o, ho, _⟩ := q; exact Heap.lt_size ho
theorem iter_ne {b : Bool} {h : Heap} {it a a' : Addr} {i : Nat} {its : Array Value} (q : IterAt b h it a' i) (p : IsAt b h a its) : a ≠ it := fun z => by
  subst z
  cases b with
  | true =>
    obtain ⟨o1, e1, c1, _⟩ := q
    obtain ⟨o2, e2, c2, _⟩ := p
    rw [e1] at e2; cases e2; rw [c1] at c2; simp at c2
  | false =>
    obtain ⟨o1, e1, c1, _⟩ := q
    obtain ⟨o2, e2, c2, _⟩ := p
    rw [e1] at e2; cases e2; rw [c1] at c2; simp at c2
theorem zsep (N a a2 : Nat) (l1 : a < N) (l2 : a2 < N) : ZipSep2 (N + 4) (N + 2) (N + 3) N (N + 1) [N, a] [N + 1, a2] := by
  refine ⟨show (N + 2 : Nat) ≠ N + 4 by omega, show (N + 3 : Nat) ≠ N + 4 by omega, show (N + 2 : Nat) ≠ N + 3 by omega, show (N + 2 : Nat) ≠ N by omega, by simp, fun h => ?_, fun h => ?_, show (N + 2 : Nat) ≠ N + 1 by omega, by simp, fun h => ?_, fun h => ?_, fun h => ?_, fun h => ?_⟩
  · have h : (N + 4 : Nat) = N ∨ (N + 4 : Nat) = a := by simpa using h
    omega
  · have h : (N + 3 : Nat) = N ∨ (N + 3 : Nat) = a := by simpa using h
    omega
  · have h : (N + 4 : Nat) = N + 1 ∨ (N + 4 : Nat) = a2 := by simpa using h
    omega
  · have h : (N + 3 : Nat) = N + 1 ∨ (N + 3 : Nat) = a2 := by simpa using h
    omega
  · have h : (N : Nat) = N + 1 ∨ (N : Nat) = a2 := by simpa using h
    omega
  · have h : (N + 1 : Nat) = N ∨ (N + 1 : Nat) = a := by simpa using h
    omega
section
variable {X : Cx} {pins : List (Addr × Obj)} {σ : L2.St} {H : Hp} {s : Shared}
theorem inv_sqx {b : Bool} {a : Addr} {xs : List V} (I : Inv X pins σ H s) (h : SqX X.K b H a xs) : ∃ its : List Value, Vals xs its ∧ IsAt b s.heap a its.toArray := by
  cases b with
  | true => obtain ⟨its, rv, p, _⟩ := I.list h; exact ⟨its, rv, p.isList⟩
  | false => obtain ⟨its, rv, p, _⟩ := I.tuple h; exact ⟨its, rv, p⟩
theorem inv_sqx_inj {b : Bool} {a : Addr} {xs ys : List V} (I : Inv X pins σ H s) (h : SqX X.K b H a xs) (h2 : SqX X.K b H a ys) : ys = xs := by
  cases b with
  | true => exact I.list_inj h2 h
  | false => exact I.tuple_inj h2 h
end
theorem drawsX {prog : Program} {w : World} {A : Around} (hh : A.handled = none) (b : Bool) (it a : Addr) (hne : a ≠ it) (items : Array Value) :
    Draws prog w A it [it, a] items.size (fun i v => items[i]? = some v) (fun i h => IterAt b h it a i ∧ IsAt b h a items) := by
  cases b with
  | true => exact Draws.list hh it a hne items
  | false => exact Draws.tuple hh it a hne items
def itrO (b : Bool) (a : Addr) : Obj := match b with
  | true => { cls := .type "list_iterator", data := .fields #[.ref a, .int 0 0] }
  | false => { cls := .type "tuple_iterator", data := .fields #[.ref a, .int 0 0] }
theorem beginsX (b : Bool) (a : Addr) (items : Array Value) : Begins (.ref a) (itrO b a) fun h => IsAt b h a items := by
  cases b with
  | true => exact begins_list a items
  | false => exact begins_tuple a items
theorem itrO_at {b : Bool} {a it : Addr} {h : Heap} (q : h.get? it = some (itrO b a)) : IterAt b h it a 0 := by
  cases b with
  | true => exact ⟨_, q, rfl, rfl⟩
  | false => exact ⟨_, q, rfl, rfl⟩

theorem meets_enumerate_newX {v : Value} {o : Obj} {H : Heap → Prop} (B : Begins v o H) :
    Meets (Builtin.«enumerate.__new__» ⟨[.type "enumerate", v], []⟩) (fun _ R s => H s.heap ∧
      R (.ok (.ret (.ref (s.heap.push o).objs.size))) { s with heap := (s.heap.push o).push { cls := .type "enumerate", data := .fields #[.none, .bool false, .ref s.heap.objs.size, rawInt 0, .none, .none] } }) :=
  .of_wp fun prog w A R s h => by
    obtain ⟨hp, g, d, tk, os⟩ := s; obtain ⟨h1, h⟩ := h
    have hsub := sub_enumerate
    have q1 : ∀ {A' : Around} {E : Value → Shared → Prop} {Q : Value → Shared → Prop}, Q (.ref hp.objs.size) ⟨hp.push o, g, d, tk, os⟩ → wpAny (model prog w) A' (pyIter v) Q E ⟨hp, g, d, tk, os⟩ :=
      fun q => B.iter prog w _ _ ⟨hp, g, d, tk, os⟩ _ h1 q
    wp_walk using q1
    refine wpAny_stack_any fun st => wpAny_pure ?_
    split
    · rename_i c _ _ _ _ _
      cases (c == Value.type "enumerate")
      · wp_walk using q1
        exact ⟨_, rfl, h⟩
      · wp_walk using q1
        exact ⟨_, rfl, h⟩
    · wp_walk using q1
      exact ⟨_, rfl, h⟩
theorem enum_beginsX {prog : Program} {w : World} {A : Around} {E : Value → Shared → Prop} {s : Shared} {v : Value} {o : Obj} {H : Heap → Prop} {Q : Value → Shared → Prop} (B : Begins v o H) (h1 : H s.heap)
    (h : ∀ h', IsEnum h' (s.heap.objs.size + 1) s.heap.objs.size 0 .none → h'.get? s.heap.objs.size = some o → h'.objs.size = s.heap.objs.size + 2 →
      (∀ b o, s.heap.get? b = some o → h'.get? b = some o) → Q (.ref (s.heap.objs.size + 1)) { s with heap := h' }) :
    wpAny (model prog w) A (call (.type "enumerate") [v]) Q E s := by
  refine callType_new F.called_enumerate (by decide) (F.typeCall_enumerate_1 _) (F.newCall_enumerate_1 _) (fun obj => F.args_object_init_2 obj _) F.entry_enumerate_new
    (meets_enumerate_newX B) ⟨h1, ?_⟩
  have hz : (s.heap.push o).objs.size = s.heap.objs.size + 1 := Heap.size_push ..
  show _ ∧ _
  rw [hz]
  have he : IsEnum ((s.heap.push o).push { cls := .type "enumerate", data := .fields #[.none, .bool false, .ref s.heap.objs.size, rawInt 0, .none, .none] }) (s.heap.objs.size + 1) s.heap.objs.size 0 .none := by
    have := Heap.get?_push_size (s.heap.push o) (o := { cls := .type "enumerate", data := .fields #[.none, .bool false, .ref s.heap.objs.size, rawInt 0, .none, .none] }) rfl
    rw [hz] at this; exact this
  refine ⟨⟨_, he, rfl⟩, h _ he (Heap.get?_push_of_some _ (Heap.get?_push_size _ B.free)) (by rw [Heap.size_push, hz]) fun b o x => Heap.get?_push_of_some _ (Heap.get?_push_of_some _ x)⟩

/-- the things at a, each with its place in a new pair -/
def IteX (K : PySem.W.Frag) (b : Bool) (a : Addr) : It :=
  ⟨fun i H => ∃ (xs : List V) (x : V), SqX K b H a xs ∧ xs[i]? = some x,
    fun i H v H' => ∃ T x, v = .ref T ∧ H T = none ∧ H' = upd H T (.tup [.int (i : Nat), x]) ∧ ∀ xs, SqX K b H a xs → xs[i]? = some x,
    fun i H => ∃ xs : List V, SqX K b H a xs ∧ xs.length = i⟩
def ItzX (K : PySem.W.Frag) (b c : Bool) (a a2 : Addr) : It :=
  ⟨fun i H => ∃ (xs ys : List V) (x y : V), SqX K b H a xs ∧ SqX K c H a2 ys ∧ xs[i]? = some x ∧ ys[i]? = some y,
    fun i H v H' => ∃ T x y, v = .ref T ∧ H T = none ∧ H' = upd H T (.tup [x, y]) ∧ (∀ xs, SqX K b H a xs → xs[i]? = some x) ∧ ∀ ys, SqX K c H a2 ys → ys[i]? = some y,
    fun i H => ∃ xs ys : List V, SqX K b H a xs ∧ SqX K c H a2 ys ∧ i ≤ xs.length ∧ i ≤ ys.length ∧ (xs.length = i ∨ ys.length = i)⟩

theorem turn_enumX {P : Program} {w : World} {K : PySem.W.Frag} {elts : List Expr} {kk : Nat} {tpos : Pos} (b0 : Bool) (a e it : Addr) :
    Turn P w K (.Tuple elts kk tpos) (IteX K b0 a) [e, it] e (fun i h => (∃ old, IsEnum h e it ((i : Nat) : Int) old) ∧ IterAt b0 h it a i ∧ e ≠ it ∧ a ≠ it ∧ e ≠ a) where
  mem := by simp
  obj := fun i h st b hb => by
    obtain ⟨⟨old, he⟩, hi, _⟩ := st
    have e' : b = e ∨ b = it := by simpa using hb
    rcases e' with z | z
    · rw [z]; exact ⟨_, he, fun v q => nomatch q⟩
    · rw [z]; exact hi.obj
  keep := fun i h h' st k => let ⟨⟨old, he⟩, hi, hne⟩ := st; ⟨⟨old, k e (by simp) _ he⟩, hi.at' fun o q => k it (by simp) o q, hne⟩
  item := by
    intro X hP hw hK hc i pins s σ H E I hf st hg
    subst hP hw hK
    obtain ⟨⟨old, he⟩, hit, hne, hai, hea⟩ := st
    obtain ⟨xs, x, hq, hx⟩ := hg
    obtain ⟨its, rv, p⟩ := inv_sqx I hq
    obtain ⟨u, hu, ru⟩ := rv.get hx
    have hel : e < s.heap.objs.size := Heap.lt_size he
    have hil : it < s.heap.objs.size := by obtain ⟨_, q, _⟩ := hit.obj; exact Heap.lt_size q
    have hlt : i < its.toArray.size := by
      have := (List.getElem?_eq_some_iff.mp hu).1
      simpa using this
    refine wpAny_pyNext_enum_itemD (drawsX (A := X.A.in1) (I.ok.hd hc) b0 it a hai its.toArray) he ⟨hit, p⟩ hlt hne (by simp [hne, hea]) fun u' h' tk hP ho hit' hT hsz hk => ?_
    have eu : u' = u := by
      have : its[i]? = some u' := by simpa using hP
      rw [hu] at this; cases this; rfl
    subst eu
    refine ⟨_, rfl, wpAny_letOwnedTupleGo_enum (s := { s with heap := h', toks := tk + 1 }) ho fun h'' he' sb => ?_⟩
    have hT2 : h''.get? s.heap.objs.size = some { cls := .type "tuple", data := .seq #[.int i tk, u'] } := (sb.2 _ (Nat.ne_of_gt hel)).trans hT
    have new : ObjOk X.prog X.w (upd H s.heap.objs.size (.tup [.int (i : Nat), x])) h'' s.heap.objs.size (.tup [.int (i : Nat), x]) :=
      ⟨by show 2 ≤ sizeLine; decide, [.int i tk, u'], .cons ⟨_, rfl⟩ (.cons ru .nil), ⟨_, hT2, rfl, _, rfl⟩⟩
    have I1 : Inv X pins σ (upd H s.heap.objs.size (.tup [.int (i : Nat), x])) { s with heap := h'', toks := tk + 1 } :=
      I.turnedNew (ch := [e, it]) (fun b ob hb q => (sb.2 b (fun z => hb (by simp [z]))).trans (hk b ob (fun z => hb (by simp [z])) (fun z => hb (by simp [z])) q)) hf (Nat.le_refl _) new
    refine ⟨.ref s.heap.objs.size, _, I1, rfl, ⟨_, x, rfl, I.hok.fresh (Nat.le_refl _), rfl, fun ys hy => by rw [inv_sqx_inj I hq hy]; exact hx⟩, ⟨⟨u', ?_⟩, hit'.1.at' fun o q => (sb.2 it (Ne.symm hne)).trans q, hne, hai, hea⟩, fun b hb => ?_⟩
    · have e1 : ((i + 1 : Nat) : Int) = (i : Int) + 1 := by omega
      rw [e1]; exact he'
    · have hb' : b < s.heap.objs.size := by
        have e' : b = e ∨ b = it := by simpa using hb
        rcases e' with z | z
        · rw [z]; exact hel
        · rw [z]; exact hil
      rw [upd_ne (Nat.ne_of_lt hb')]
      exact (hf b hb).1
  done := by
    intro X hP hw hK hc i pins s σ H E I hf st hg
    subst hP hw hK
    obtain ⟨⟨old, he⟩, hit, hne, hai, hea⟩ := st
    obtain ⟨xs, hq, hx⟩ := hg
    obtain ⟨its, rv, p⟩ := inv_sqx I hq
    obtain ⟨f0, f1, f2, f3, f4, f5⟩ := hf it (by simp)
    have hl := rv.length
    have hn : its.toArray.size = i := by simp; omega
    exact wpAny_pyNext_enum_endD (drawsX (A := X.A.in1) (I.ok.hd hc) b0 it a hai its.toArray) he ⟨by rw [hn]; exact hit, p⟩ fun h' eb => ⟨rfl, I.turned (t' := s.toks) (fun b o hb q => eb b o hb q) f0 f1 f3 f4 f5⟩
  self := fun A i s Q E st h => let ⟨⟨_, he⟩, _⟩ := st; wpAny_pyIter_enum he h

theorem turn_zipX {P : Program} {w : World} {K : PySem.W.Frag} {elts : List Expr} {kk : Nat} {tpos : Pos} (b0 c0 : Bool) {a a2 z TI TO i1 i2 : Addr} (D : ZipSep2 z TI TO i1 i2 [i1, a] [i2, a2]) :
    Turn P w K (.Tuple elts kk tpos) (ItzX K b0 c0 a a2) [z, TI, TO, i1, i2] z (fun i h => IsZip h z TI TO .none ∧ IsTupOf2 h TI (.ref i1) (.ref i2) ∧ (∃ x y, IsTupOf2 h TO x y) ∧ IterAt b0 h i1 a i ∧ IterAt c0 h i2 a2 i) where
  mem := by simp
  obj := fun i h st c hc => by
    obtain ⟨hz, hTI, ⟨x, y, hTO⟩, h1, h2⟩ := st
    have e' : c = z ∨ c = TI ∨ c = TO ∨ c = i1 ∨ c = i2 := by simpa using hc
    rcases e' with q | q | q | q | q
    · rw [q]; exact ⟨_, hz, fun v q => nomatch q⟩
    · rw [q]; exact ⟨_, hTI, fun v q => nomatch q⟩
    · rw [q]; exact ⟨_, hTO, fun v q => nomatch q⟩
    · rw [q]; exact h1.obj
    · rw [q]; exact h2.obj
  keep := fun i h h' st k => by
    obtain ⟨hz, hTI, ⟨x, y, hTO⟩, h1, h2⟩ := st
    exact ⟨k z (by simp) _ hz, k TI (by simp) _ hTI, ⟨x, y, k TO (by simp) _ hTO⟩, h1.at' fun o q => k i1 (by simp) o q, h2.at' fun o q => k i2 (by simp) o q⟩
  item := by
    intro X hP hw hK hc i pins s σ H E I hf st hg
    subst hP hw hK
    obtain ⟨hz, hTI, ⟨x0, y0, hTO⟩, h1, h2⟩ := st
    obtain ⟨xs, ys, x, y, hqx, hqy, hx, hy⟩ := hg
    obtain ⟨its, rv, p⟩ := inv_sqx I hqx
    obtain ⟨its2, rv2, p2⟩ := inv_sqx I hqy
    obtain ⟨u, hu, ru⟩ := rv.get hx
    obtain ⟨u2, hu2, ru2⟩ := rv2.get hy
    have hzl : z < s.heap.objs.size := Heap.lt_size hz
    have l1 : i < its.toArray.size := by simpa using (List.getElem?_eq_some_iff.mp hu).1
    have l2 : i < its2.toArray.size := by simpa using (List.getElem?_eq_some_iff.mp hu2).1
    have na : a ≠ i1 := iter_ne h1 p
    have na2 : a2 ≠ i2 := iter_ne h2 p2
    refine wpAny_pyNext_zipD2_item D (drawsX (A := X.A.in1) (I.ok.hd hc) b0 i1 a na its.toArray) (drawsX (A := X.A.in1) (I.ok.hd hc) c0 i2 a2 na2 its2.toArray) hz hTI hTO ⟨h1, p⟩ ⟨h2, p2⟩ l1 l2 fun v1 v2 h' tk hP1 hP2 z' TO' h1' h2' hT hsz hk => ?_
    have eu : v1 = u := by
      have : its[i]? = some v1 := by simpa using hP1
      rw [hu] at this; cases this; rfl
    have eu2 : v2 = u2 := by
      have : its2[i]? = some v2 := by simpa using hP2
      rw [hu2] at this; cases this; rfl
    subst eu eu2
    refine ⟨_, rfl, wpAny_letOwnedTupleGo_zip (s := { s with heap := h', toks := tk }) z' fun h'' z'' sb => ?_⟩
    have hT2 : h''.get? s.heap.objs.size = some { cls := .type "tuple", data := .seq #[v1, v2] } := (sb.2 _ (Nat.ne_of_gt hzl)).trans hT
    have new : ObjOk X.prog X.w (upd H s.heap.objs.size (.tup [x, y])) h'' s.heap.objs.size (.tup [x, y]) :=
      ⟨by show 2 ≤ sizeLine; decide, [v1, v2], .cons ru (.cons ru2 .nil), ⟨_, hT2, rfl, _, rfl⟩⟩
    have I1 : Inv X pins σ (upd H s.heap.objs.size (.tup [x, y])) { s with heap := h'', toks := tk } :=
      I.turnedNew (ch := [z, TI, TO, i1, i2]) (fun c o hb q => (sb.2 c (fun q' => hb (by simp [q']))).trans (hk c o (fun q' => hb (by simp [q'])) (fun q' => hb (by simp [q'])) (fun q' => hb (by simp [q'])) (fun q' => hb (by simp [q'])) q)) hf (Nat.le_refl _) new
    refine ⟨.ref s.heap.objs.size, _, I1, rfl, ⟨_, x, y, rfl, I.hok.fresh (Nat.le_refl _), rfl, fun l hl => by rw [inv_sqx_inj I hqx hl]; exact hx, fun l hl => by rw [inv_sqx_inj I hqy hl]; exact hy⟩, ⟨z'', ?_, ⟨v1, v2, ?_⟩, ?_, ?_⟩, fun c hcm => ?_⟩
    · exact (sb.2 _ D.TIz).trans (hk _ _ D.TIz D.TITO D.TIi1 D.TIi2 hTI)
    · exact (sb.2 _ D.TOz).trans TO'
    · exact h1'.1.at' fun o q => (sb.2 _ (ZipSep2.zi1 D).symm).trans q
    · exact h2'.1.at' fun o q => (sb.2 _ (ZipSep2.zi2 D).symm).trans q
    · have hlt : c < s.heap.objs.size := by
        have e' : c = z ∨ c = TI ∨ c = TO ∨ c = i1 ∨ c = i2 := by simpa using hcm
        rcases e' with q | q | q | q | q
        · rw [q]; exact hzl
        · rw [q]; exact Heap.lt_size hTI
        · rw [q]; exact Heap.lt_size hTO
        · rw [q]; obtain ⟨_, e1, _⟩ := h1.obj; exact Heap.lt_size e1
        · rw [q]; obtain ⟨_, e2, _⟩ := h2.obj; exact Heap.lt_size e2
      rw [upd_ne (Nat.ne_of_lt hlt)]
      exact (hf c hcm).1
  done := by
    intro X hP hw hK hc i pins s σ H E I hf st hg
    subst hP hw hK
    obtain ⟨hz, hTI, ⟨x0, y0, hTO⟩, h1, h2⟩ := st
    obtain ⟨xs, ys, hqx, hqy, hle1, hle2, hend⟩ := hg
    obtain ⟨its, rv, p⟩ := inv_sqx I hqx
    obtain ⟨its2, rv2, p2⟩ := inv_sqx I hqy
    have l1 := rv.length
    have l2 := rv2.length
    have na : a ≠ i1 := iter_ne h1 p
    have na2 : a2 ≠ i2 := iter_ne h2 p2
    exact wpAny_pyNext_zipD2_end D (drawsX (A := X.A.in1) (I.ok.hd hc) b0 i1 a na its.toArray) (drawsX (A := X.A.in1) (I.ok.hd hc) c0 i2 a2 na2 its2.toArray) hz hTI hTO ⟨h1, p⟩ ⟨h2, p2⟩ (by simp; omega) (by simp; omega) (by simp; omega) fun h' tk hk => ⟨rfl, I.turnedL (t' := tk) (ch := [z, TI, TO, i1, i2]) (fun c o hb q =>
      hk c o (fun q' => hb (by simp [q'])) (fun q' => hb (by simp [q'])) (fun q' => hb (by simp [q'])) (fun q' => hb (by simp [q'])) q) hf⟩
  self := fun A i s Q E st h => wpAny_pyIter_zip st.1 h

def iEnumX (K : PySem.W.Frag) (ta : TA) : TI := fun σ H R => ta σ H fun vs H1 => ∃ b a xs, vs = [.ref a] ∧ SqX K b H1 a xs ∧ R (IteX K b a) H1
theorem pi_enumX {X : Cx} {e : Expr} {ta : TA} {p pos tpos : Pos} {elts : List Expr} {kk : Nat} (hg : Gl X "enumerate") (hm : X.mg "enumerate" = none) (ha : PA X [e] ta) (hs : starEach [e] X.env = [(false, eval e X.env)]) :
    PI X (.Tuple elts kk tpos) (.Call (.Name "enumerate" p) [e] [] pos) (iEnumX X.K ta) := by
  refine ⟨fun pins s σ H R I h => ?_⟩
  refine Call_ (ld_blt I hg hm boot_enumerate (PyProof.Rows.callWith_type1 (thn (ha.run pos pins s σ H _ I h) fun us s1 ⟨vs, H1, I1, r1, q1⟩ => ?_) hs rfl))
  obtain ⟨b0, a, xs, ex, hq, q⟩ := q1
  subst ex
  cases r1 with
  | cons r rr =>
    cases rr
    cases r
    obtain ⟨its, rv, p'⟩ := inv_sqx I1 hq
    have hl := p'.lt
    refine enum_beginsX (beginsX b0 a its.toArray) p' fun h' he hit hsz hk => wpAny_pyIter_enum he ?_
    have I2 : Inv X pins σ H1 { s1 with heap := h' } := I1.kept (t' := s1.toks) hk
    refine ⟨s1.heap.objs.size + 1, [s1.heap.objs.size + 1, s1.heap.objs.size], _, _, H1, rfl, I2, turn_enumX b0 a (s1.heap.objs.size + 1) s1.heap.objs.size, ⟨⟨.none, he⟩, itrO_at hit, Nat.succ_ne_self _, Nat.ne_of_lt hl, Nat.ne_of_gt (Nat.lt_succ_of_lt hl)⟩, fun b hb => ?_, q⟩
    have e' : b = s1.heap.objs.size + 1 ∨ b = s1.heap.objs.size := by simpa using hb
    have hle : s1.heap.objs.size ≤ b := by
      rcases e' with z | z
      · rw [z]; exact Nat.le_add_right _ _
      · rw [z]; exact Nat.le_refl _
    exact I1.fpOk hle (I1.hok.fresh hle)
def iZipX (K : PySem.W.Frag) (ta : TA) : TI := fun σ H R => ta σ H fun vs H1 => ∃ b c a a2 xs ys, vs = [.ref a, .ref a2] ∧ SqX K b H1 a xs ∧ SqX K c H1 a2 ys ∧ R (ItzX K b c a a2) H1
theorem pi_zipX {X : Cx} {e e2 : Expr} {ta : TA} {p pos tpos : Pos} {elts : List Expr} {kk : Nat} (hg : Gl X "zip") (hm : X.mg "zip" = none) (ha : PA X [e, e2] ta)
    (hs : starEach [e, e2] X.env = (false, eval e X.env) :: starEach [e2] X.env) (hpl : (backTo pos (starEach [e2] X.env)).any (·.1) = false) :
    PI X (.Tuple elts kk tpos) (.Call (.Name "zip" p) [e, e2] [] pos) (iZipX X.K ta) := by
  refine ⟨fun pins s σ H R I h => ?_⟩
  refine Call_ (ld_blt I hg hm PyProof.Rows.boot_zip (PyProof.Rows.callWith_type1 (thn (ha.run pos pins s σ H _ I h) fun us s1 ⟨vs, H1, I1, r1, q1⟩ => ?_) hs hpl))
  obtain ⟨b0, c0, a, a2, xs, ys, ex, hqx, hqy, q⟩ := q1
  subst ex
  cases r1 with
  | cons r rr =>
    cases rr with
    | cons r' rr =>
      cases rr
      cases r
      cases r'
      obtain ⟨its, rv, p1⟩ := inv_sqx I1 hqx
      obtain ⟨its2, rv2, p2⟩ := inv_sqx I1 hqy
      have l1 := p1.lt
      have l2 := p2.lt
      have fresh5 : ∀ c, c ∈ [s1.heap.objs.size + 4, s1.heap.objs.size + 2, s1.heap.objs.size + 3, s1.heap.objs.size, s1.heap.objs.size + 1] → FpOk X pins H1 c := fun c hcm => by
        have e' : c = s1.heap.objs.size + 4 ∨ c = s1.heap.objs.size + 2 ∨ c = s1.heap.objs.size + 3 ∨ c = s1.heap.objs.size ∨ c = s1.heap.objs.size + 1 := by simpa using hcm
        have hle : s1.heap.objs.size ≤ c := by
          rcases e' with z | z | z | z | z
          · rw [z]; exact Nat.le_add_right _ _
          · rw [z]; exact Nat.le_add_right _ _
          · rw [z]; exact Nat.le_add_right _ _
          · rw [z]; exact Nat.le_refl _
          · rw [z]; exact Nat.le_add_right _ _
        exact I1.fpOk hle (I1.hok.fresh hle)
      refine zip_begins2 (beginsX b0 a its.toArray) (beginsX c0 a2 its2.toArray) p1 p2 fun h' hz hTI hTO h1 h2 hsz hk => wpAny_pyIter_zip hz ?_
      have I2 : Inv X pins σ H1 { s1 with heap := h' } := I1.kept (t' := s1.toks) hk
      exact ⟨s1.heap.objs.size + 4, [s1.heap.objs.size + 4, s1.heap.objs.size + 2, s1.heap.objs.size + 3, s1.heap.objs.size, s1.heap.objs.size + 1], _, _, H1, rfl, I2, turn_zipX b0 c0 (zsep s1.heap.objs.size a a2 l1 l2), ⟨hz, hTI, ⟨_, _, hTO⟩, itrO_at h1, itrO_at h2⟩, fresh5, q⟩
end Rh
set_option Elab.async false
set_option linter.all false
set_option maxRecDepth 100000
set_option maxHeartbeats 1000000
/-! Rh: enumerate, zip by data; targets; comprehensions. -/
namespace Rh
open PySem L2 PySem.Spec PyProof.Rows
def FxX (K : PySem.W.Frag) (b : Bool) (F : Hp) (a : Addr) (xs : List V) : Prop := match b with
  | true => F a = some (.lst xs)
  | false => SqT K F a xs
theorem FxX.sq {K : PySem.W.Frag} {b : Bool} {F H : Hp} {a : Addr} {xs : List V} (h : FxX K b F a xs) (e : Ext F H) : SqX K b H a xs := by
  cases b with
  | true => exact SqL.of (e _ _ h)
  | false => exact e.t h
section
variable {K : PySem.W.Frag} {T : Tx} {p : Addr} {F : Hp}
theorem seq_fx {v : V} {d : D} {l : List D} (r : Rp K T p F v d) (e : seqOf d = some l) : ∃ b a xs, v = .ref a ∧ FxX K b F a xs ∧ Rps K T p F xs l := by
  cases r with
  | tup h2 r2 => cases e; exact ⟨false, _, _, rfl, h2, r2⟩
  | lst h2 r2 => cases e; exact ⟨true, _, _, rfl, h2, r2⟩
  | _ => simp [seqOf] at e
theorem tup_put {F1 H : Hp} {w : Pn} {A : Addr} {xs : List V} {ds : List D} (e : Ext F1 H) (pn : Pen T p F1 H w) (hA : H A = none) (r : Rps K T p F1 xs ds) :
    Rp K T p (upd F1 A (.tup xs)) (.ref A) (.tup ds) ∧ Grow p F1 H (upd F1 A (.tup xs)) (upd H A (.tup xs)) ∧ Pen T p (upd F1 A (.tup xs)) (upd H A (.tup xs)) w := by
  have g : Grow p F1 H (upd F1 A (.tup xs)) (upd H A (.tup xs)) := Grow.put e hA
  exact ⟨.tup (.inl (.inl (by rw [upd_same]))) (r.mono g.ff), g, pn.put hA e (nt_tup _)⟩
theorem itok_enum {b : Bool} {a : Addr} {xs : List V} {ds : List D} (h : FxX K b F a xs) (r : Rps K T p F xs ds) : ItOk K T p F (IteX K b a) (enumL ds) := by
  have hl : (enumL ds).length = xs.length := by unfold enumL; rw [List.length_map, List.length_zipIdx, r.length]
  refine ⟨fun i F1 H e1 e2 hi => ?_, fun F1 H e1 e2 => ⟨xs, h.sq (e1.trans e2), hl.symm⟩, fun i F1 H w x H' e1 e2 pn hi y => ?_⟩
  · rw [hl] at hi
    exact ⟨xs, xs[i], h.sq (e1.trans e2), List.getElem?_eq_getElem hi⟩
  · obtain ⟨A, u, rfl, hA, rfl, hu⟩ := y
    obtain ⟨d, h1, h2⟩ := r.getV (hu xs (h.sq (e1.trans e2)))
    obtain ⟨q1, q2, q3⟩ := tup_put e2 pn hA (Rps.cons (Rp.int (i : Nat)) (Rps.cons (h2.mono e1) Rps.nil))
    exact ⟨_, _, by unfold enumL; rw [List.getElem?_map, List.getElem?_zipIdx, h1]; simp, q1, q2, q3⟩
theorem itok_zip {b c : Bool} {a a2 : Addr} {xs ys : List V} {ds es : List D} (h : FxX K b F a xs) (h' : FxX K c F a2 ys) (r : Rps K T p F xs ds) (r' : Rps K T p F ys es) : ItOk K T p F (ItzX K b c a a2) (zipL ds es) := by
  have hl : (zipL ds es).length = min xs.length ys.length := by unfold zipL; rw [List.length_map, List.length_zip, r.length, r'.length]
  refine ⟨fun i F1 H e1 e2 hi => ?_, fun F1 H e1 e2 => ⟨xs, ys, h.sq (e1.trans e2), h'.sq (e1.trans e2), by omega, by omega, by omega⟩, fun i F1 H w x H' e1 e2 pn hi y => ?_⟩
  · rw [hl] at hi
    have l1 : i < xs.length := by omega
    have l2 : i < ys.length := by omega
    exact ⟨xs, ys, xs[i], ys[i], h.sq (e1.trans e2), h'.sq (e1.trans e2), List.getElem?_eq_getElem l1, List.getElem?_eq_getElem l2⟩
  · obtain ⟨A, u, u2, rfl, hA, rfl, hu, hu2⟩ := y
    obtain ⟨d, h1, h2⟩ := r.getV (hu xs (h.sq (e1.trans e2)))
    obtain ⟨d2, h3, h4⟩ := r'.getV (hu2 ys (h'.sq (e1.trans e2)))
    obtain ⟨q1, q2, q3⟩ := tup_put e2 pn hA (Rps.cons (h2.mono e1) (Rps.cons (h4.mono e1) Rps.nil))
    have hz : (zipL ds es)[i]? = some (.tup [d, d2]) := by
      unfold zipL
      rw [List.getElem?_map, List.getElem?_zip_eq_some (z := (d, d2)) |>.mpr ⟨h1, h3⟩]
      rfl
    exact ⟨_, _, hz, q1, q2, q3⟩
end
section
variable {X : Cx} {T : Tx} {W : XK} {pos p1 : Pos} {a b : Expr} {fa fb : XF} {elts : List Expr} {kk : Nat} {tpos : Pos}
theorem i_enum (hm : X.mg "enumerate" = none) (ha : PE X a (tX X.K T W fa)) (hg : Gl X "enumerate" := by rfl) (hs : starEach [a] X.env = [(false, eval a X.env)] := by rfl) : PI X (.Tuple elts kk tpos) (.Call (.Name "enumerate" p1) [a] [] pos) (tI X.K T W (srcEnum fa)) :=
  imI (pi_enumX hg hm (pa_cons ha pa_nil (by rw [hs]; rfl)) hs) fun σ H Q ⟨p, F, env, w, iv, h⟩ => by
    refine ⟨p, F, env, w, iv, Post.bind h fun x w1 v F1 H1 e1 g1 pn1 rx h1 => ?_⟩
    obtain ⟨l, e, h3⟩ := Post.opt1 h1
    cases q : seqOf x with
    | none => rw [q] at e; cases e
    | some m =>
      rw [q] at e; cases e
      obtain ⟨b0, A, xs, rfl, f1, r1⟩ := seq_fx rx q
      exact ⟨b0, A, xs, rfl, f1.sq g1.fh, h3.here g1.fh pn1 (itok_enum f1 r1)⟩
theorem i_zip (hm : X.mg "zip" = none) (ha : PE X a (tX X.K T W fa)) (hb : PE X b (tX X.K T W fb)) (hg : Gl X "zip" := by rfl)
    (hs : starEach [a, b] X.env = (false, eval a X.env) :: starEach [b] X.env := by rfl) (hs1 : starEach [b] X.env = [(false, eval b X.env)] := by rfl) (hpl : (backTo pos (starEach [b] X.env)).any (·.1) = false := by rfl) : PI X (.Tuple elts kk tpos) (.Call (.Name "zip" p1) [a, b] [] pos) (tI X.K T W (srcZip fa fb)) :=
  imI (pi_zipX hg hm (pa_cons ha (pa_cons hb pa_nil (by rw [hs1]; rfl)) hs) hs hpl) fun σ H Q ⟨p, F, env, w, iv, h⟩ => by
    refine ⟨p, F, env, w, iv, Post.bind h fun x w1 v F1 H1 e1 g1 pn1 rx h1 => ?_⟩
    refine ⟨p, F1, env, w1, iv.step g1 pn1, Post.bind h1 fun y w2 v2 F2 H2 e2 g2 pn2 ry h2 => ?_⟩
    obtain ⟨l, e, h3⟩ := Post.opt1 h2
    cases q : seqOf x with
    | none => rw [q] at e; cases e
    | some m =>
      cases q2 : seqOf y with
      | none => rw [q, q2] at e; cases e
      | some m2 =>
        rw [q, q2] at e; cases e
        obtain ⟨b0, A, xs, rfl, f1, r1⟩ := seq_fx (rx.mono g2.ff) q
        obtain ⟨c0, A2, ys, rfl, f2, r2⟩ := seq_fx ry q2
        exact ⟨b0, c0, A, A2, xs, ys, rfl, f1.sq g2.fh, f2.sq g2.fh, h3.here g2.fh pn2 (itok_zip f1 f2 r1 r2)⟩
end

/-! ### slots -/
theorem wipe_get (σ : L2.St) : ∀ (vs : List Nat) (j : Nat), (wipe σ vs)[j]? = if j ∈ vs then (σ[j]?).map (fun _ => none) else σ[j]?
  | [], j => by simp [wipe]
  | v :: vs, j => by
    unfold wipe
    by_cases h : v = j
    · subst h
      by_cases hl : v < σ.length
      · rw [List.getElem?_set_self (by rw [wipe_length]; exact hl), List.getElem?_eq_getElem hl]; simp
      · rw [List.getElem?_eq_none (by simp [wipe_length]; omega), List.getElem?_eq_none (by omega)]; simp
    · rw [List.getElem?_set_ne h, wipe_get σ vs j]
      have : j ≠ v := fun e => h e.symm
      simp [this]
theorem wipeE_get (σ : En) : ∀ (vs : List Nat) (j : Nat), (wipeE σ vs)[j]? = if j ∈ vs then (σ[j]?).map (fun _ => none) else σ[j]?
  | [], j => by simp [wipeE]
  | v :: vs, j => by
    have hlen : ∀ us : List Nat, (wipeE σ us).length = σ.length := fun us => by
      induction us with
      | nil => rfl
      | cons u us ih => unfold wipeE; rw [List.length_set, ih]
    unfold wipeE
    by_cases h : v = j
    · subst h
      by_cases hl : v < σ.length
      · rw [List.getElem?_set_self (by rw [hlen]; exact hl), List.getElem?_eq_getElem hl]; simp
      · rw [List.getElem?_eq_none (by simp [hlen]; omega), List.getElem?_eq_none (by omega)]; simp
    · rw [List.getElem?_set_ne h, wipeE_get σ vs j]
      have : j ≠ v := fun e => h e.symm
      simp [this]
theorem wipeE_length (σ : En) : ∀ us : List Nat, (wipeE σ us).length = σ.length
  | [] => rfl
  | u :: us => by unfold wipeE; rw [List.length_set, wipeE_length σ us]
theorem wipe_idem (σ : L2.St) (vs : List Nat) : wipe (wipe σ vs) vs = wipe σ vs := by
  apply List.ext_getElem?
  intro j
  rw [wipe_get, wipe_get]
  by_cases h : j ∈ vs
  · simp only [h, if_true]
    cases σ[j]? <;> rfl
  · simp [h]
theorem wipe_set (σ : L2.St) (vs : List Nat) {i : Nat} {x : Option V} (h : i ∈ vs) : wipe (σ.set i x) vs = wipe σ vs := by
  apply List.ext_getElem?
  intro j
  rw [wipe_get, wipe_get]
  by_cases hj : j ∈ vs
  · simp only [hj, if_true]
    by_cases e : i = j
    · subst e
      by_cases hl : i < σ.length
      · rw [List.getElem?_set_self hl, List.getElem?_eq_getElem hl]; rfl
      · rw [List.getElem?_eq_none (by simp; omega), List.getElem?_eq_none (by omega)]
    · rw [List.getElem?_set_ne e]
  · have e : i ≠ j := fun e => hj (e ▸ h)
    simp only [hj, if_false]
    rw [List.getElem?_set_ne e]
section
variable {K : PySem.W.Frag} {T : Tx} {p : Addr} {F H : Hp} {w : Pn} {σ : L2.St} {env : En}
theorem IV.wipe (iv : IV K T p F H σ env w) (vs : List Nat) : IV K T p F H (L2.wipe σ vs) (wipeE env vs) w := by
  have out : ∀ {i : Nat} {s : Sl}, (wipeE env vs)[i]? = some (some s) → env[i]? = some (some s) ∧ i ∉ vs := fun {i s} e => by
    rw [wipeE_get] at e
    by_cases h : i ∈ vs
    · simp [h] at e
    · simp only [h, if_false] at e; exact ⟨e, h⟩
  refine ⟨iv.sub, iv.pen, by rw [wipe_length, wipeE_length]; exact iv.len, fun i d e => ?_, fun i l e => ?_, fun i j l m a hij e1 e2 e3 => ?_⟩
  · obtain ⟨e, n⟩ := out e
    obtain ⟨v, h1, h2⟩ := iv.val i d e
    exact ⟨v, by rw [wipe_get]; simp [n, h1], h2⟩
  · obtain ⟨e, n⟩ := out e
    obtain ⟨a, us, h1, r⟩ := iv.chg i l e
    exact ⟨a, us, by rw [wipe_get]; simp [n, h1], r⟩
  · obtain ⟨e1, n1⟩ := out e1
    obtain ⟨e2, n2⟩ := out e2
    rw [wipe_get] at e3 ⊢
    simp only [n1, n2, if_false] at e3 ⊢
    exact iv.apart i j l m a hij e1 e2 e3
theorem IV.set (iv : IV K T p F H σ env w) {i : Nat} {v : V} {d : D} (r : Rp K T p F v d) : IV K T p F H (σ.set i (some v)) (env.set i (some (.val d))) w := by
  have ne : ∀ {j : Nat} {l : List D}, (env.set i (some (.val d)))[j]? = some (some (.chg l)) → i ≠ j ∧ env[j]? = some (some (.chg l)) := fun {j l} e => by
    by_cases h : i = j
    · subst h
      by_cases hl : i < env.length
      · rw [List.getElem?_set_self hl] at e; cases e
      · rw [List.getElem?_eq_none (by simp; omega)] at e; cases e
    · rw [List.getElem?_set_ne h] at e; exact ⟨h, e⟩
  refine ⟨iv.sub, iv.pen, by simp [iv.len], fun j d' e => ?_, fun j l e => ?_, fun j k l m a hjk e1 e2 e3 => ?_⟩
  · by_cases h : i = j
    · subst h
      by_cases hl : i < env.length
      · rw [List.getElem?_set_self hl] at e; cases e
        exact ⟨v, List.getElem?_set_self (by rw [iv.len]; exact hl), r⟩
      · rw [List.getElem?_eq_none (by simp; omega)] at e; cases e
    · rw [List.getElem?_set_ne h] at e ⊢
      exact iv.val j d' e
  · obtain ⟨h, e⟩ := ne e
    rw [List.getElem?_set_ne h]
    exact iv.chg j l e
  · obtain ⟨h, e1⟩ := ne e1
    obtain ⟨h', e2⟩ := ne e2
    rw [List.getElem?_set_ne h] at e3
    rw [List.getElem?_set_ne h']
    exact iv.apart j k l m a hjk e1 e2 e3
end
def gsOf : List Nat → TGs
  | [] => gNil
  | i :: r => gCons (gName i) (gsOf r)
def gOf (K : PySem.W.Frag) : Tg → TG
  | .nm i => gName i
  | .tp l => gTup K l.length (gsOf l)
def Tg.ixs : Tg → List Nat
  | .nm i => [i]
  | .tp l => l
section
variable {K : PySem.W.Frag} {T : Tx} {p : Addr} {F H : Hp} {w : Pn}
theorem setTs_ok {vs0 : List Nat} {Q : L2.St → Hp → Prop} {τ : En} : ∀ {l : List Nat} {vs : List V} {ds : List D} {σ : L2.St} {env : En}, IV K T p F H σ env w → Rps K T p F vs ds → setTs env l ds = some τ → (∀ i ∈ l, i ∈ vs0) → (∀ σ', IV K T p F H σ' τ w → L2.wipe σ' vs0 = L2.wipe σ vs0 → Q σ' H) → gsOf l vs σ H Q
  | [], _, _, σ, env, iv, .nil, e, _, k => by
    cases e
    exact ⟨rfl, k σ iv rfl⟩
  | [], _, _, _, _, _, .cons _ _, e, _, _ => by cases e
  | _ :: _, _, _, _, _, _, .nil, e, _, _ => by cases e
  | i :: l, _, _, σ, env, iv, .cons (v := v) (vs := vs) h r, e, hs, k =>
    ⟨v, vs, rfl, setTs_ok (iv.set h) r e (fun j hj => hs j (List.mem_cons_of_mem _ hj)) fun σ' iv' e' => k σ' iv' (by rw [e', wipe_set _ _ (hs i List.mem_cons_self)])⟩
theorem setT_ok {vs0 : List Nat} {Q : L2.St → Hp → Prop} {τ : En} {t : Tg} {v : V} {d : D} {σ : L2.St} {env : En} (iv : IV K T p F H σ env w) (r : Rp K T p F v d) (e : setT env t d = some τ) (hs : ∀ i ∈ t.ixs, i ∈ vs0)
    (k : ∀ σ', IV K T p F H σ' τ w → L2.wipe σ' vs0 = L2.wipe σ vs0 → Q σ' H) : gOf K t v σ H Q := by
  cases t with
  | nm i =>
    cases e
    exact k _ (iv.set r) (wipe_set _ _ (hs i (by simp [Tg.ixs])))
  | tp l =>
    cases r with
    | tup h2 r2 =>
      have hl : ∀ {l : List Nat} {ds : List D} {e0 : En}, setTs e0 l ds = some τ → l.length = ds.length := fun {l} => by
        induction l with
        | nil => intro ds e0 e; cases ds with
          | nil => rfl
          | cons _ _ => cases e
        | cons a l ih => intro ds e0 e; cases ds with
          | nil => cases e
          | cons _ _ => simp [ih e]
      exact ⟨_, _, rfl, iv.sub.t h2, by rw [r2.length, hl e], setTs_ok iv r2 e hs k⟩
    | _ => simp [setT] at e
end

abbrev W0 : XK := fun _ _ _ => False
def compI (l : List D) (i : Nat) (ds : List D) : Prop := ds = l.drop i
section
variable {X : Cx} {T : Tx} {W : XK}
/-- the reading of a comprehension by data -/
theorem lc_ok {own : List Nat} {t : Tg} {fs : AF} {fc : TF} {fe : XF} {σ : L2.St} {H : Hp} {Q : V → Hp → Prop} (hs : ∀ i ∈ t.ixs, i ∈ own)
    (h : tX X.K T W (xcomp own t fs fc fe) σ H Q) : tLc (tI X.K T W fs) (gOf X.K t) (tT X.K T W0 fc) (tX X.K T W0 fe) own σ H Q := by
  obtain ⟨p, F, env, w, iv, h⟩ := h
  refine ⟨p, F, env, w, iv, Post.bind h fun l w1 J F1 H1 e1 g1 pn1 rJ h1 => ?_⟩
  intro A hA
  have iv1 := iv.step g1 pn1
  cases q : compL env own t fc fe l [] w1 with
  | none => rw [q] at h1; exact h1.elim
  | some o =>
    cases o with
    | ex c d w' => rw [q] at h1; exact h1.elim
    | ok fin wf =>
      rw [q] at h1
      have hF : F1 A = none := by
        cases z : F1 A with
        | none => rfl
        | some u => rw [g1.fh _ _ z] at hA; cases hA
      have iv2 : IV X.K T p F1 (upd H1 A (.lst [])) σ env w1 := iv1.step (Grow.lay g1.fh hA) (pn1.lay hA)
      refine ⟨fun i m H => m = l.length - i ∧ i ≤ l.length ∧ ∃ F2 w2 acc vs, Grow p F1 (upd H1 A (.lst [])) F2 (upd H A (.lst [])) ∧ Ext F2 H ∧ Pen T p F2 H w2 ∧ H A = some (.lst vs) ∧ F2 A = none ∧ Rps X.K T p F2 vs acc ∧ compL env own t fc fe (l.drop i) acc w2 = some (.ok fin wf),
        ⟨l.length, rfl, Nat.zero_le _, F1, w1, [], [], ?_, ?_, ?_, by rw [upd_same], hF, .nil, q⟩, ?_⟩
      · rw [upd_upd]; exact Grow.refl iv2.sub
      · exact iv2.sub
      · exact iv2.pen
      rintro i m H2 ⟨rfl, hi, F2, w2, acc, vs, g2, x2, pn2, a2, f2, r2, q2⟩
      by_cases hlt : i < l.length
      · refine .inr ⟨rJ.go i F2 H2 g2.ff x2 hlt, fun H3 => ∃ F3 w3 acc' vs', Grow p F1 (upd H1 A (.lst [])) F3 (upd H3 A (.lst [])) ∧ Ext F3 H3 ∧ Pen T p F3 H3 w3 ∧ H3 A = some (.lst vs') ∧ F3 A = none ∧ Rps X.K T p F3 vs' acc' ∧ compL env own t fc fe (l.drop (i + 1)) acc' w3 = some (.ok fin wf), fun H3 z => ⟨l.length - (i + 1), by omega, rfl, hlt, z⟩, fun x H3 y => ?_⟩
        obtain ⟨d, F3, e3, r3, g3, pn3⟩ := rJ.yld i F2 H2 w2 x H3 g2.ff x2 pn2 hlt y
        have ed : l.drop i = d :: l.drop (i + 1) := by
          rw [List.drop_eq_getElem_cons hlt]
          rw [List.getElem?_eq_getElem hlt] at e3
          cases e3; rfl
        rw [ed] at q2
        unfold compL at q2
        have hAp : A ≠ p := fun z => by obtain ⟨c, hc, _⟩ := pn1.at_; rw [z, hc] at hA; cases hA
        -- what is known of a heap behind some more growing
        have ext : ∀ {F4 : Hp} {H4 : Hp} {w4 : Pn}, Grow p F2 H2 F4 H4 → Pen T p F4 H4 w4 → Grow p F1 (upd H1 A (.lst [])) F4 (upd H4 A (.lst [])) ∧ H4 A = some (.lst vs) ∧ F4 A = none := fun {F4 H4 w4} g4 pn4 => by
          have k4 : H4 A = some (.lst vs) := g4.keep _ _ hAp (nt_lst _) a2
          have n4 : F4 A = none := by
            cases z : F4 A with
            | none => rfl
            | some u =>
              rcases g4.new A u z with z' | z'
              · rw [f2] at z'; cases z'
              · rw [a2] at z'; cases z'
          refine ⟨⟨fun b o hb nt e => ?_, fun b hb e => ?_, g2.ff.trans g4.ff, fun b o e => ?_, fun b o e => ?_⟩, k4, n4⟩
          · by_cases hbA : b = A
            · subst hbA; rw [upd_same] at e ⊢; exact e
            · have := g2.keep b o hb nt e
              rw [upd_ne hbA] at this ⊢
              exact g4.keep b o hb nt this
          · have hbA : b ≠ A := fun z => by rw [z, upd_same] at e; cases e
            rw [upd_ne hbA] at e
            exact g2.live b hb (by rw [upd_ne hbA]; exact g4.live b hb e)
          · have hbA : b ≠ A := fun z => by rw [z, n4] at e; cases e
            rw [upd_ne hbA]; exact g4.fh b o e
          · rcases g4.new b o e with z | z
            · exact g2.new b o z
            · right
              by_cases hbA : b = A
              · subst hbA; rw [n4] at e; cases e
              · by_cases hbp : b = p
                · subst hbp; rw [pn4.no] at e; cases e
                · exact g2.live b hbp (by rw [upd_ne hbA]; exact z)
        cases q3 : setT (wipeE env own) t d with
        | none => rw [q3] at q2; cases q2
        | some τ =>
          rw [q3] at q2
          simp only at q2
          obtain ⟨G3, k3, n3⟩ := ext g3 pn3
          -- the slots there
          have iv3 : IV X.K T p F3 H3 σ env w2 := by
            have z : IV X.K T p F2 H2 σ env w2 := by
              refine ⟨x2, pn2, iv1.len, fun j d' e => ?_, fun j m e => ?_, iv1.apart⟩
              · obtain ⟨v, h1, h2⟩ := iv1.val j d' e
                exact ⟨v, h1, h2.mono g2.ff⟩
              · obtain ⟨a, us, h1, h2, h3, h4, h5⟩ := iv2.chg j m e
                have haA : a ≠ A := fun z => by
                  obtain ⟨a', us', h1', h2', _⟩ := iv1.chg j m e
                  rw [h1] at h1'; cases h1'
                  rw [z, hA] at h2'; cases h2'
                refine ⟨a, us, h1, ?_, ?_, h4, h5.mono g2.ff⟩
                · have := g2.keep a _ h4 (nt_lst _) h2
                  rw [upd_ne haA] at this; exact this
                · cases z : F2 a with
                  | none => rfl
                  | some u =>
                    rcases g2.new a u z with z' | z'
                    · rw [h3] at z'; cases z'
                    · rw [h2] at z'; cases z'
            exact z.step g3 pn3
          refine setT_ok (vs0 := own) (iv3.wipe own) r3 q3 hs fun σ' iv4 ew => ⟨by rw [ew, wipe_idem], ?_⟩
          cases q4 : fc τ w2 with
          | none => rw [q4] at q2; cases q2
          | some o =>
            cases o with
            | ex c d' w' => rw [q4] at q2; cases q2
            | ok kb w4 =>
              rw [q4] at q2
              simp only [bnd_ok] at q2
              refine ⟨p, F3, τ, w2, iv4, ?_⟩
              rw [q4]
              intro b F5 H5 g5 pn5 rb
              subst rb
              have g35 := g3.trans g5 pn5.no
              obtain ⟨G5, k5, n5⟩ := ext g35 pn5
              cases b with
              | false =>
                simp only [Bool.false_eq_true, if_false] at q2 ⊢
                exact ⟨F5, w4, acc, vs, G5, g5.fh, pn5, k5, n5, (r2.mono g35.ff), q2⟩
              | true =>
                simp only [if_true] at q2 ⊢
                cases q6 : fe τ w4 with
                | none => rw [q6] at q2; cases q2
                | some o =>
                  cases o with
                  | ex c d' w' => rw [q6] at q2; cases q2
                  | ok y w6 =>
                    rw [q6] at q2
                    simp only [bnd_ok] at q2
                    refine ⟨p, F5, τ, w4, iv4.step g5 pn5, ?_⟩
                    rw [q6]
                    intro yv F7 H7 g7 pn7 ry
                    have g37 := g35.trans g7 pn7.no
                    obtain ⟨G7, k7, n7⟩ := ext g37 pn7
                    split at q2
                    · rename_i hsm
                      simp only [small, decide_eq_true_eq] at hsm
                      have hln := r2.length
                      have pn8 : Pen T p F7 (upd H7 A (.lst (vs ++ [yv]))) w6 := pn7.write k7 hAp
                      refine ⟨vs, k7, by omega, F7, w6, acc ++ [y], vs ++ [yv], ?_, fun b o e => ?_, pn8, by rw [upd_same], n7, ((r2.mono g37.ff).append (.cons ry .nil)), q2⟩
                      · rw [upd_upd]; exact G7
                      · rw [upd_ne (fun z => by rw [z, n7] at e; cases e)]; exact g7.fh b o e
                    · cases q2
      · have e : i = l.length := by omega
        subst e
        rw [List.drop_length] at q2
        unfold compL at q2
        cases q2
        refine .inl ⟨rJ.stop F2 H2 g2.ff x2, ?_⟩
        have hAp : A ≠ p := fun z => by obtain ⟨c, hc, _⟩ := pn1.at_; rw [z, hc] at hA; cases hA
        refine h1 (.ref A) (upd F2 A (.lst vs)) H2 ⟨fun b o hb nt e => ?_, fun b hb e => ?_, fun b o e => ?_, fun b o e => ?_, fun b o e => ?_⟩ (pn2.fix hAp (nt_lst _) f2) (.lst (by rw [upd_same]) (r2.mono ?_))
        · have hbA : b ≠ A := fun z => by rw [z, hA] at e; cases e
          have := g2.keep b o hb nt (by rw [upd_ne hbA]; exact e)
          rw [upd_ne hbA] at this; exact this
        · have hbA : b ≠ A := fun z => by rw [z, a2] at e; cases e
          have := g2.live b hb (by rw [upd_ne hbA]; exact e)
          rw [upd_ne hbA] at this; exact this
        · rw [upd_ne (fun z => by rw [z, hF] at e; cases e)]; exact g2.ff b o e
        · by_cases hbA : b = A
          · subst hbA; rw [upd_same] at e; rw [a2]; exact e
          · rw [upd_ne hbA] at e; exact x2 b o e
        · by_cases hbA : b = A
          · subst hbA; exact .inr hA
          · rw [upd_ne hbA] at e
            rcases g2.new b o e with z | z
            · exact .inl z
            · rw [upd_ne hbA] at z; exact .inr z
        · exact fun b o e => by rw [upd_ne (fun z => by rw [z, f2] at e; cases e)]; exact e
theorem x_comp {elt tg iter : Expr} {ifs : List Expr} {scope : Scope} {own : List (Str × Nat)} {pos : Pos} {t : Tg} {fs : AF} {fc : TF} {fe : XF} (hc : X.calm = true) (hN : X.N.Nodup) (hi : PI X tg iter (tI X.K T W fs)) (ok : BlkOk X.N X.env.scope scope own) (ho : ∀ i ∈ t.ixs, i ∈ own.map (·.2))
    (hg : ∀ (s : Shared) (H : Hp) (C : Addr) (cl : List (Str × Addr)) (fp : List Addr), PG (X.blk s H scope (compEnvC scope cl C X.env) fp) tg (gOf X.K t)) (ht : ∀ (s : Shared) (H : Hp) (C : Addr) (cl : List (Str × Addr)) (fp : List Addr), PTs (X.blk s H scope (compEnvC scope cl C X.env) fp) ifs (tT X.K T W0 fc))
    (he : ∀ (s : Shared) (H : Hp) (C : Addr) (cl : List (Str × Addr)) (fp : List Addr), PE (X.blk s H scope (compEnvC scope cl C X.env) fp) elt (tX X.K T W0 fe)) (hs : ∀ x, foldedSetIterable iter X.env x = pure x := by intro _; rfl) :
    PE X (.ListComp elt [⟨tg, iter, ifs, 0⟩] scope pos) (tX X.K T W (xcomp (own.map (·.2)) t fs fc fe)) :=
  imE (pe_lc hc hN hi ok hg ht he hs) fun σ H Q h => lc_ok ho h
end
end Rh
set_option Elab.async false
set_option linter.all false
set_option maxRecDepth 100000
set_option maxHeartbeats 1000000
/-! Rh: statements by data. -/
namespace Rh
open PySem L2 PySem.Spec PyProof.Rows
structure IVS (K : PySem.W.Frag) (T : Tx) (p : Addr) (F0 H0 F H : Hp) (σ : L2.St) (env : En) (w : Pn) : Prop where
  iv : IV K T p F H σ env w
  gr : Grow p F0 H0 F H
  own : ∀ (i : Nat) (l : List D) (a : Addr), env[i]? = some (some (.chg l)) → σ[i]? = some (some (.ref a)) → H0 a = none
def PostS (K : PySem.W.Frag) (T : Tx) (W : XK) (m : Option (Out Fl)) (p : Addr) (F0 H0 : Hp) (D : Ends) : Prop := match m with
  | none => False
  | some (.ok (.nx env) w) => ∀ (σ : L2.St) (F H : Hp), IVS K T p F0 H0 F H σ env w → D.nx σ H
  | some (.ok (.bk env) w) => ∀ (σ : L2.St) (F H : Hp), IVS K T p F0 H0 F H σ env w → D.bk σ H
  | some (.ok (.ct env) w) => ∀ (σ : L2.St) (F H : Hp), IVS K T p F0 H0 F H σ env w → D.ct σ H
  | some (.ok (.rt d) w) => ∀ (v : V) (F H : Hp), Grow p F0 H0 F H → Pen T p F H w → Rp K T p F v d → D.rt v H
  | some (.ex c d w) => ∀ (dx : Addr) (v : V) (F H : Hp), Grow p F0 H0 F H → Pen T p F H w → H dx = some (.xd [(T.ef c, v)]) → Rp K T p F v d → W (.ref (T.ea c)) (some dx) H
def tS (K : PySem.W.Frag) (T : Tx) (W : XK) (f : SF) : TS := fun D σ H => ∃ p F0 H0 F env w, IVS K T p F0 H0 F H σ env w ∧ PostS K T W (f env w) p F0 H0 D
theorem imS {X : Cx} {st : Stmt} {t t' : TS} (h : PS X st t) (i : ∀ D σ H, t' D σ H → t D σ H) : PS X st t' := ⟨fun pins s σ H D I q => h.run pins s σ H D I (i _ _ _ q)⟩
theorem imSs {X : Cx} {st : List Stmt} {t t' : TS} (h : PSs X st t) (i : ∀ D σ H, t' D σ H → t D σ H) : PSs X st t' := ⟨fun pins s σ H D I q => h.run pins s σ H D I (i _ _ _ q)⟩
section
variable {K : PySem.W.Frag} {T : Tx} {p : Addr} {F0 H0 F H F1 H1 : Hp} {w w1 : Pn} {W : XK} {σ : L2.St} {env : En} {Z : Ends}
theorem IVS.step (iv : IVS K T p F0 H0 F H σ env w) (g : Grow p F H F1 H1) (pn : Pen T p F1 H1 w1) : IVS K T p F0 H0 F1 H1 σ env w1 :=
  ⟨iv.iv.step g pn, iv.gr.trans g pn.no, iv.own⟩
theorem PostS.bind {α β : Type} {R1 : Addr → Hp → Hp → β → α → Prop} {m : Option (Out α)} {f : α → Pn → Option (Out Fl)} {Q1 : β → Hp → Prop} (iv : IVS K T p F0 H0 F H σ env w) (h : PostS K T W (bnd m f) p F0 H0 Z)
    (k : ∀ a w1 b F1 H1, m = some (.ok a w1) → Grow p F H F1 H1 → Pen T p F1 H1 w1 → R1 p F1 H1 b a → IVS K T p F0 H0 F1 H1 σ env w1 → PostS K T W (f a w1) p F0 H0 Z → Q1 b H1) : Post K T R1 m p F H Q1 W := by
  cases m with
  | none => exact h
  | some o =>
    cases o with
    | ok a w => exact fun b F' H' g' pn r => k a w b F' H' rfl g' pn r (iv.step g' pn) h
    | ex c d w => exact fun dx v F' H' g' pn e r => h dx v F' H' (iv.gr.trans g' pn.no) pn e r
theorem PostS.opt {α : Type} {o : Option α} {f : α → Pn → Option (Out Fl)} (h : PostS K T W (bnd (opt o w) f) p F0 H0 Z) : ∃ a, o = some a ∧ PostS K T W (f a w) p F0 H0 Z := by
  cases o with
  | none => exact h.elim
  | some a => exact ⟨a, rfl, h⟩
theorem PostS.opt1 {o : Option Fl} (h : PostS K T W (Rh.opt o w) p F0 H0 Z) : ∃ a, o = some a ∧ PostS K T W (some (.ok a w)) p F0 H0 Z := by
  cases o with
  | none => exact h.elim
  | some a => exact ⟨a, rfl, h⟩
/-- the ends may be told otherwise -/
theorem PostS.ends {m : Option (Out Fl)} {f : Fl → Pn → Option (Out Fl)} {Z' : Ends} (h : PostS K T W (bnd m f) p F0 H0 Z)
    (k : ∀ a w1, m = some (.ok a w1) → PostS K T W (f a w1) p F0 H0 Z → PostS K T W (some (.ok a w1)) p F0 H0 Z') : PostS K T W m p F0 H0 Z' := by
  cases m with
  | none => exact h
  | some o =>
    cases o with
    | ok a w => exact k a w rfl h
    | ex c d w => exact h
theorem Grow.rebase (b : Grow p F0 H0 F1 H1) (g : Grow p F1 H0 F H) : Grow p F0 H0 F H :=
  ⟨g.keep, g.live, b.ff.trans g.ff, g.fh, fun c o q => (g.new c o q).elim (fun z => b.new c o z) .inr⟩
theorem IVS.rebase (b : Grow p F0 H0 F1 H1) (i : IVS K T p F1 H0 F H σ env w) : IVS K T p F0 H0 F H σ env w := ⟨i.iv, b.rebase i.gr, i.own⟩
theorem IVS.based (i : IVS K T p F0 H0 F H σ env w) : IVS K T p F H0 F H σ env w := ⟨i.iv, ⟨i.gr.keep, i.gr.live, Ext.refl F, i.iv.sub, fun _ _ q => .inl q⟩, i.own⟩
theorem PostS.rebase {m : Option (Out Fl)} (b : Grow p F0 H0 F1 H1) (h : PostS K T W m p F0 H0 Z) : PostS K T W m p F1 H0 Z := by
  cases m with
  | none => exact h
  | some o =>
    cases o with
    | ok a w =>
      cases a with
      | nx τ => exact fun σ F H i => h σ F H (i.rebase b)
      | bk τ => exact fun σ F H i => h σ F H (i.rebase b)
      | ct τ => exact fun σ F H i => h σ F H (i.rebase b)
      | rt d => exact fun v F H g pn r => h v F H (b.rebase g) pn r
    | ex c d w => exact fun dx v F H g pn e r => h dx v F H (b.rebase g) pn e r
theorem IVS.set (iv : IVS K T p F0 H0 F H σ env w) {i : Nat} {v : V} {d : D} (r : Rp K T p F v d) : IVS K T p F0 H0 F H (σ.set i (some v)) (env.set i (some (.val d))) w := by
  refine ⟨iv.iv.set r, iv.gr, fun j l a e1 e2 => ?_⟩
  by_cases h : i = j
  · subst h
    by_cases hl : i < env.length
    · rw [List.getElem?_set_self hl] at e1; cases e1
    · rw [List.getElem?_eq_none (by simp; omega)] at e1; cases e1
  · rw [List.getElem?_set_ne h] at e1 e2
    exact iv.own j l a e1 e2
theorem setTs_okS {Q : L2.St → Hp → Prop} {τ : En} : ∀ {l : List Nat} {vs : List V} {ds : List D} {σ : L2.St} {env : En}, IVS K T p F0 H0 F H σ env w → Rps K T p F vs ds → setTs env l ds = some τ → (∀ σ', IVS K T p F0 H0 F H σ' τ w → Q σ' H) → gsOf l vs σ H Q
  | [], _, _, σ, env, iv, .nil, e, k => by
    cases e
    exact ⟨rfl, k σ iv⟩
  | [], _, _, _, _, _, .cons _ _, e, _ => by cases e
  | _ :: _, _, _, _, _, _, .nil, e, _ => by cases e
  | i :: l, _, _, σ, env, iv, .cons (v := v) (vs := vs) h r, e, k => ⟨v, vs, rfl, setTs_okS (iv.set h) r e k⟩
theorem setTs_len {τ : En} : ∀ {l : List Nat} {ds : List D} {e0 : En}, setTs e0 l ds = some τ → l.length = ds.length
  | [], [], _, _ => rfl
  | [], _ :: _, _, e => by cases e
  | _ :: _, [], _, e => by cases e
  | _ :: l, _ :: ds, _, e => by simp [setTs_len (l := l) e]
theorem setT_okS {Q : L2.St → Hp → Prop} {τ : En} {t : Tg} {v : V} {d : D} (iv : IVS K T p F0 H0 F H σ env w) (r : Rp K T p F v d) (e : setT env t d = some τ) (k : ∀ σ', IVS K T p F0 H0 F H σ' τ w → Q σ' H) : gOf K t v σ H Q := by
  cases t with
  | nm i => cases e; exact k _ (iv.set r)
  | tp l =>
    cases r with
    | tup h2 r2 => exact ⟨_, _, rfl, iv.iv.sub.t h2, by rw [r2.length, setTs_len e], setTs_okS iv r2 e k⟩
    | _ => simp [setT] at e
/-- a list of the def's own, new -/
theorem IVS.lay (iv : IVS K T p F0 H0 F H σ env w) {i : Nat} {a : Addr} (ha : H a = none) : IVS K T p F0 H0 F (upd H a (.lst [])) (σ.set i (some (.ref a))) (env.set i (some (.chg []))) w := by
  have hF : F a = none := by
    cases z : F a with
    | none => rfl
    | some u => rw [iv.iv.sub _ _ z] at ha; cases ha
  have hp : a ≠ p := fun z => by obtain ⟨c, hc, _⟩ := iv.iv.pen.at_; rw [z, hc] at ha; cases ha
  have h0 : H0 a = none := iv.gr.live a hp ha
  have iv1 := iv.step (Grow.lay iv.iv.sub ha (o := .lst [])) (iv.iv.pen.lay ha)
  have other : ∀ {j : Nat} {l : List D}, i ≠ j → env[j]? = some (some (.chg l)) → σ[j]? ≠ some (some (.ref a)) := fun {j l} hj e z => by
    obtain ⟨b, us, h1, h2, _⟩ := iv.iv.chg j l e
    rw [z] at h1; cases h1
    rw [ha] at h2; cases h2
  refine ⟨⟨iv1.iv.sub, iv1.iv.pen, by simp [iv.iv.len], fun j d e => ?_, fun j l e => ?_, fun j k l m b hjk e1 e2 e3 => ?_⟩, iv1.gr, fun j l b e1 e2 => ?_⟩
  · by_cases h : i = j
    · subst h
      by_cases hl : i < env.length
      · rw [List.getElem?_set_self hl] at e; cases e
      · rw [List.getElem?_eq_none (by simp; omega)] at e; cases e
    · rw [List.getElem?_set_ne h] at e ⊢
      exact iv1.iv.val j d e
  · by_cases h : i = j
    · subst h
      by_cases hl : i < env.length
      · rw [List.getElem?_set_self hl] at e; cases e
        exact ⟨a, [], List.getElem?_set_self (by rw [iv.iv.len]; exact hl), by rw [upd_same], hF, hp, .nil⟩
      · rw [List.getElem?_eq_none (by simp; omega)] at e; cases e
    · rw [List.getElem?_set_ne h] at e ⊢
      exact iv1.iv.chg j l e
  · by_cases h : i = j
    · subst h
      by_cases hl : i < env.length
      · rw [List.getElem?_set_self (by rw [iv.iv.len]; exact hl)] at e3; cases e3
        rw [List.getElem?_set_ne hjk] at e2 ⊢
        exact other hjk e2
      · rw [List.getElem?_eq_none (by simp; omega)] at e1; cases e1
    · rw [List.getElem?_set_ne h] at e1 e3
      by_cases h' : i = k
      · subst h'
        intro z
        by_cases hl : i < σ.length
        · rw [List.getElem?_set_self hl] at z; cases z
          exact other h e1 e3
        · rw [List.getElem?_eq_none (by simp; omega)] at z; cases z
      · rw [List.getElem?_set_ne h'] at e2 ⊢
        exact iv1.iv.apart j k l m b hjk e1 e2 e3
  · by_cases h : i = j
    · subst h
      by_cases hl : i < env.length
      · rw [List.getElem?_set_self (by rw [iv.iv.len]; exact hl)] at e2; cases e2
        exact h0
      · rw [List.getElem?_eq_none (by simp; omega)] at e1; cases e1
    · rw [List.getElem?_set_ne h] at e1 e2
      exact iv.own j l b e1 e2
/-- a list of the def's own is changed -/
theorem IVS.put (iv : IVS K T p F0 H0 F H σ env w) {i : Nat} {l l' : List D} {a : Addr} {vs' : List V} (e : env[i]? = some (some (.chg l))) (ea : σ[i]? = some (some (.ref a))) (r : Rps K T p F vs' l') :
    IVS K T p F0 H0 F (upd H a (.lst vs')) σ (env.set i (some (.chg l'))) w := by
  obtain ⟨a', vs, h1, h2, h3, h4, h5⟩ := iv.iv.chg i l e
  rw [ea] at h1; cases h1
  have h0 := iv.own i l a e ea
  have hi : i < env.length := (List.getElem?_eq_some_iff.mp e).1
  have sub : Ext F (upd H a (.lst vs')) := fun b o q => by
    rw [upd_ne (fun z => by rw [z, h3] at q; cases q)]; exact iv.iv.sub b o q
  have pn : Pen T p F (upd H a (.lst vs')) w := iv.iv.pen.write h2 h4
  refine ⟨⟨sub, pn, by simp [iv.iv.len], fun j d q => ?_, fun j m q => ?_, fun j k m n b hjk e1 e2 e3 => ?_⟩, ⟨fun b o hb nt q => ?_, fun b hb q => ?_, iv.gr.ff, sub, iv.gr.new⟩, fun j m b e1 e2 => ?_⟩
  · by_cases h : i = j
    · subst h; rw [List.getElem?_set_self hi] at q; cases q
    · rw [List.getElem?_set_ne h] at q; exact iv.iv.val j d q
  · by_cases h : i = j
    · subst h
      rw [List.getElem?_set_self hi] at q; cases q
      exact ⟨a, vs', ea, by rw [upd_same], h3, h4, r⟩
    · rw [List.getElem?_set_ne h] at q
      obtain ⟨b, us, g1, g2, g3, g4, g5⟩ := iv.iv.chg j m q
      refine ⟨b, us, g1, ?_, g3, g4, g5⟩
      rw [upd_ne (fun z => by subst z; exact iv.iv.apart i j l m b h e q ea g1)]
      exact g2
  · have g1 : ∃ m', env[j]? = some (some (.chg m')) := by
      by_cases h : i = j
      · subst h; exact ⟨l, e⟩
      · rw [List.getElem?_set_ne h] at e1; exact ⟨m, e1⟩
    have g2 : ∃ m', env[k]? = some (some (.chg m')) := by
      by_cases h : i = k
      · subst h; exact ⟨l, e⟩
      · rw [List.getElem?_set_ne h] at e2; exact ⟨n, e2⟩
    obtain ⟨m', g1⟩ := g1
    obtain ⟨n', g2⟩ := g2
    exact iv.iv.apart j k m' n' b hjk g1 g2 e3
  · have hba : b ≠ a := fun z => by subst z; rw [h0] at q; cases q
    rw [upd_ne hba]; exact iv.gr.keep b o hb nt q
  · have hba : b ≠ a := fun z => by rw [z, upd_same] at q; cases q
    rw [upd_ne hba] at q; exact iv.gr.live b hb q
  · have g1 : ∃ m', env[j]? = some (some (.chg m')) := by
      by_cases h : i = j
      · subst h; exact ⟨l, e⟩
      · rw [List.getElem?_set_ne h] at e1; exact ⟨m, e1⟩
    obtain ⟨m', g1⟩ := g1
    exact iv.own j m' b g1 e2
/-- .. and fixed, at the def's end -/
theorem IVS.freeze (iv : IVS K T p F0 H0 F H σ env w) {i : Nat} {l : List D} (e : env[i]? = some (some (.chg l))) : ∃ a F', σ[i]? = some (some (.ref a)) ∧ Grow p F0 H0 F' H ∧ Pen T p F' H w ∧ Rp K T p F' (.ref a) (.lst l) := by
  obtain ⟨a, vs, h1, h2, h3, h4, h5⟩ := iv.iv.chg i l e
  have h0 := iv.own i l a e h1
  have ext : Ext F (upd F a (.lst vs)) := fun b o q => by
    rw [upd_ne (fun z => by rw [z, h3] at q; cases q)]; exact q
  refine ⟨a, upd F a (.lst vs), h1, ⟨iv.gr.keep, iv.gr.live, iv.gr.ff.trans ext, fun b o q => ?_, fun b o q => ?_⟩, iv.iv.pen.fix h4 (nt_lst _) h3, .lst (by rw [upd_same]) (h5.mono ext)⟩
  · by_cases hb : b = a
    · subst hb; rw [upd_same] at q; rw [h2]; exact q
    · rw [upd_ne hb] at q; exact iv.iv.sub b o q
  · by_cases hb : b = a
    · subst hb; exact .inr h0
    · rw [upd_ne hb] at q; exact iv.gr.new b o q
end

theorem ins_take {α : Type} : ∀ (l : List α) (n : Nat) (x : α), n ≤ l.length → l.take n ++ [x] ++ l.drop n = l.insertIdx n x
  | l, 0, x, _ => by simp
  | [], n + 1, x, h => by simp at h
  | a :: l, n + 1, x, h => by
    have ih := ins_take l n x (by simpa using h)
    simp only [List.append_assoc, List.singleton_append] at ih
    simp [ih]
/-! ### several names at once -/
def spar2 (i j : Nat) (a b : XF) : SF := fun σ w => bnd (a σ w) fun x w => bnd (b σ w) fun y w => some (.ok (.nx ((σ.set i (some (.val x))).set j (some (.val y)))) w)
def spar3 (i j l : Nat) (a b c : XF) : SF := fun σ w => bnd (a σ w) fun x w => bnd (b σ w) fun y w => bnd (c σ w) fun z w => some (.ok (.nx (((σ.set i (some (.val x))).set j (some (.val y))).set l (some (.val z)))) w)
def spar2m (i j : Nat) (a : XF) : SF := fun σ w => bnd (a σ w) fun x w => some (.ok (.nx ((σ.set i (some (.val x))).set j (some (.chg [])))) w)
def spar2n (i j : Nat) : SF := fun σ w => some (.ok (.nx ((σ.set i (some (.chg []))).set j (some (.chg [])))) w)
section
variable {X : Cx} {T : Tx} {W : XK} {pos : Pos} {a b c e : Expr} {fa fb fc : XF} {st : Stmt} {sts s2 : List Stmt} {f g : SF} {tc : TF}
theorem s_nil : PSs X [] (tS X.K T W snil) := imSs pss_nil fun D σ H ⟨p, F0, H0, F, env, w, iv, h⟩ => h σ F H iv
theorem s_cons (h1 : PS X st (tS X.K T W f)) (h2 : PSs X sts (tS X.K T W g)) : PSs X (st :: sts) (tS X.K T W (scons f g)) :=
  imSs (pss_cons h1 h2) fun D σ H ⟨p, F0, H0, F, env, w, iv, h⟩ => by
    refine ⟨p, F0, H0, F, env, w, iv, PostS.ends h fun a w1 _ h1 => ?_⟩
    cases a with
    | nx τ => exact fun σ' F' H' iv' => ⟨p, F0, H0, F', τ, w1, iv', h1⟩
    | rt d => exact h1
    | bk τ => exact h1
    | ct τ => exact h1
theorem s_one (h1 : PS X st (tS X.K T W f)) : PSs X [st] (tS X.K T W f) := pss_one h1
theorem s_pass : PS X (.Pass pos) (tS X.K T W spass) := imS ps_pass fun D σ H ⟨p, F0, H0, F, env, w, iv, h⟩ => h σ F H iv
theorem s_expr (ha : PE X a (tX X.K T W fa)) (hs : swapsWith a none pos.line X.env = pure false := by rfl) : PS X (.Expr a pos) (tS X.K T W (sexpr fa)) :=
  imS (ps_expr ha hs) fun D σ H ⟨p, F0, H0, F, env, w, iv, h⟩ => ⟨p, F, env, w, iv.iv, PostS.bind iv h fun x w1 v F1 H1 _ _ _ _ iv1 h1 => h1 σ F1 H1 iv1⟩
theorem s_ret (ha : PE X a (tX X.K T W fa)) : PS X (.Return (some a) pos) (tS X.K T W (sret fa)) :=
  imS (ps_ret ha) fun D σ H ⟨p, F0, H0, F, env, w, iv, h⟩ => ⟨p, F, env, w, iv.iv, PostS.bind iv h fun x w1 v F1 H1 _ _ pn1 rx iv1 h1 => h1 v F1 H1 iv1.gr pn1 rx⟩
theorem s_retM (i : Nat) {x : Str} {p2 : Pos} (hN : X.N[i]? = some x := by rfl) (hv : Vis X.env.scope x := by first | exact Or.inl rfl | exact Or.inr (Or.inl rfl) | exact Or.inr (Or.inr rfl)) (hd : (x == ("__debug__" : Str)) = false := by decide)
    (hcd : (x == ("__classdict__" : Str)) = false := by decide) : PS X (.Return (some (.Name x p2)) pos) (tS X.K T W (sretM i)) :=
  imS (ps_ret (pe_var hN hv hd hcd)) fun D σ H ⟨p, F0, H0, F, env, w, iv, h⟩ => by
    obtain ⟨fl, e, h1⟩ := PostS.opt1 h
    rw [Option.map_eq_some_iff] at e
    obtain ⟨l, e, rfl⟩ := e
    obtain ⟨A, F', h2, g, pn, r⟩ := iv.freeze (mslot_some e)
    exact ⟨_, h2, h1 _ F' H g pn r⟩
theorem s_if (hc : PT X c (tT X.K T W tc)) (ha : PSs X sts (tS X.K T W f)) (hb : PSs X s2 (tS X.K T W g)) : PS X (.If c sts s2 pos) (tS X.K T W (site tc f g)) :=
  imS (ps_if hc ha hb) fun D σ H ⟨p, F0, H0, F, env, w, iv, h⟩ => ⟨p, F, env, w, iv.iv, PostS.bind iv h fun x w1 v F1 H1 _ _ _ rx iv1 h1 => by
    have rx : v = x := rx
    subst rx
    cases v with
    | true => exact ⟨p, F0, H0, F1, env, w1, iv1, h1⟩
    | false => exact ⟨p, F0, H0, F1, env, w1, iv1, h1⟩⟩
theorem s_set (i : Nat) {x : Str} {p2 : Pos} (hN : X.N.Nodup) (ha : PE X a (tX X.K T W fa)) (hi : X.N[i]? = some x := by rfl) (hx : Loc X.env.scope x := by first | exact Or.inl rfl | exact Or.inr rfl) (hs : swapsWith a (some (.Name x p2)) pos.line X.env = pure false := by rfl)
    (hf : X.fn x = true ∨ X.env.scope.names.lookup x = some .local := by first | exact .inl rfl | exact .inr rfl) : PS X (.Assign [.Name x p2] a pos) (tS X.K T W (sasg (.nm i) fa)) :=
  imS (ps_set hN hi hx ha hs hf) fun D σ H ⟨p, F0, H0, F, env, w, iv, h⟩ => ⟨p, F, env, w, iv.iv, PostS.bind iv h fun x w1 v F1 H1 _ _ _ rx iv1 h1 => by
    obtain ⟨fl, e, h2⟩ := PostS.opt1 h1
    cases e
    exact h2 _ F1 H1 (iv1.set rx)⟩
theorem s_asg {t : Tg} {tg : Expr} (hg : PG X tg (gOf X.K t)) (ha : PE X a (tX X.K T W fa)) (hs : swapsWithSole [tg] a pos.line X.env = pure false := by rfl) (hw : swappedStores [tg] a X.env = pure none := by rfl)
    (h1 : (assignEach [tg] X.env).map (·.2) = [assign tg X.env] := by rfl) : PS X (.Assign [tg] a pos) (tS X.K T W (sasg t fa)) :=
  imS (ps_asg ha hg hs hw h1) fun D σ H ⟨p, F0, H0, F, env, w, iv, h⟩ => ⟨p, F, env, w, iv.iv, PostS.bind iv h fun x w1 v F1 H1 _ _ _ rx iv1 h1 => by
    obtain ⟨fl, e, h2⟩ := PostS.opt1 h1
    rw [Option.map_eq_some_iff] at e
    obtain ⟨τ, e, rfl⟩ := e
    exact setT_okS iv1 rx e fun σ' iv' => h2 σ' F1 H1 iv'⟩
/-- name = [..] on one line -/
theorem s_setLc (i : Nat) {y : Str} {py : Pos} {elt tg iter : Expr} {ifs : List Expr} {scope : Scope} {own : List (Str × Nat)} {pos spos : Pos} {t : Tg} {fs : AF} {fc : TF} {fe : XF} (hc : X.calm = true) (hN : X.N.Nodup)
    (hi : PI X tg iter (tI X.K T W fs)) (ok : BlkOk X.N X.env.scope scope own) (ho : ∀ i ∈ t.ixs, i ∈ own.map (·.2))
    (hg : ∀ (s : Shared) (H : Hp) (C : Addr) (cl : List (Str × Addr)) (fp : List Addr), PG (X.blk s H scope (compEnvC scope cl C X.env) fp) tg (gOf X.K t)) (ht : ∀ (s : Shared) (H : Hp) (C : Addr) (cl : List (Str × Addr)) (fp : List Addr), PTs (X.blk s H scope (compEnvC scope cl C X.env) fp) ifs (tT X.K T W0 fc))
    (he : ∀ (s : Shared) (H : Hp) (C : Addr) (cl : List (Str × Addr)) (fp : List Addr), PE (X.blk s H scope (compEnvC scope cl C X.env) fp) elt (tX X.K T W0 fe)) (hy : X.N[i]? = some y := by rfl) (hyl : X.env.scope.names.lookup y = some .local := by rfl)
    (hsw : swapsWith (.ListComp elt [⟨tg, iter, ifs, 0⟩] scope pos) (some (.Name y py)) spos.line X.env = pure true := by exact sw_true rfl rfl rfl rfl) (hs : ∀ x, foldedSetIterable iter X.env x = pure x := by intro _; rfl) :
    PS X (.Assign [.Name y py] (.ListComp elt [⟨tg, iter, ifs, 0⟩] scope pos) spos) (tS X.K T W (sasg (.nm i) (xcomp (own.map (·.2)) t fs fc fe))) :=
  imS (ps_setLc hc hN hy hyl hsw hi ok hg ht he hs) fun D σ H ⟨p, F0, H0, F, env, w, iv, h⟩ => lc_ok ho ⟨p, F, env, w, iv.iv, PostS.bind iv h fun x w1 v F1 H1 _ _ _ rx iv1 h1 => by
    obtain ⟨fl, e, h2⟩ := PostS.opt1 h1
    cases e
    exact h2 _ F1 H1 (iv1.set rx)⟩
theorem s_new (i : Nat) {x : Str} {p2 p3 : Pos} (hN : X.N.Nodup) (hi : X.N[i]? = some x := by rfl) (hx : Loc X.env.scope x := by first | exact Or.inl rfl | exact Or.inr rfl) (hs : swapsWith (.List [] p3) (some (.Name x p2)) pos.line X.env = pure false := by rfl)
    (hf : X.fn x = true ∨ X.env.scope.names.lookup x = some .local := by first | exact .inl rfl | exact .inr rfl) : PS X (.Assign [.Name x p2] (.List [] p3) pos) (tS X.K T W (snew i)) :=
  imS (ps_set hN hi hx (pe_lst pa_nil) hs hf) fun D σ H ⟨p, F0, H0, F, env, w, iv, h⟩ => ⟨Nat.zero_le _, fun q hq => h _ F _ (iv.lay hq)⟩
theorem s_par2 (i j : Nat) {x y : Str} {px py pt : Pos} {kt k2 pt2} (hc : X.calm = true) (hN : X.N.Nodup) (hij : i ≠ j) (ha : PE X a (tX X.K T W fa)) (hb : PE X b (tX X.K T W fb)) (hs2 : starEach (a :: [b]) X.env = (false, eval a X.env) :: starEach [b] X.env := by rfl) (hs1 : starEach (b :: []) X.env = (false, eval b X.env) :: starEach [] X.env := by rfl)
    (hi : X.N[i]? = some x := by rfl) (hj : X.N[j]? = some y := by rfl)
    (hx : X.env.scope.names.lookup x = some .local := by rfl) (hy : X.env.scope.names.lookup y = some .local := by rfl)
    (hw : swappedStores [.Tuple [.Name x px, .Name y py] kt pt] (.Tuple [a, b] k2 pt2) X.env = pure (some [x, y]) := by rfl)
    (hs : swapsWithSole [.Tuple [.Name x px, .Name y py] kt pt] (.Tuple [a, b] k2 pt2) pos.line X.env = pure false := by rfl) :
    PS X (.Assign [.Tuple [.Name x px, .Name y py] kt pt] (.Tuple [a, b] k2 pt2) pos) (tS X.K T W (spar2 i j fa fb)) :=
  imS (ps_par hc hN hi hj hij hx hy (pa_cons ha (pa_cons hb pa_nil hs1) hs2) hw hs) fun D σ H ⟨p, F0, H0, F, env, w, iv, h⟩ => by
    refine ⟨p, F, env, w, iv.iv, PostS.bind iv h fun x1 w1 v1 F1 H1 _ _ _ r1 iv1 h1 => ?_⟩
    refine ⟨p, F1, env, w1, iv1.iv, PostS.bind iv1 h1 fun x2 w2 v2 F2 H2 _ g2 _ r2 iv2 h2 => ?_⟩
    exact ⟨_, _, rfl, h2 _ F2 H2 ((iv2.set (r1.mono g2.ff)).set r2)⟩
theorem s_par2m (i j : Nat) {x y : Str} {px py pt p3 : Pos} {kt k2 pt2} (hc : X.calm = true) (hN : X.N.Nodup) (hij : i ≠ j) (ha : PE X a (tX X.K T W fa)) (hs2 : starEach (a :: [.List [] p3]) X.env = (false, eval a X.env) :: starEach [.List [] p3] X.env := by rfl)
    (hi : X.N[i]? = some x := by rfl) (hj : X.N[j]? = some y := by rfl)
    (hx : X.env.scope.names.lookup x = some .local := by rfl) (hy : X.env.scope.names.lookup y = some .local := by rfl)
    (hw : swappedStores [.Tuple [.Name x px, .Name y py] kt pt] (.Tuple [a, .List [] p3] k2 pt2) X.env = pure (some [x, y]) := by rfl)
    (hs : swapsWithSole [.Tuple [.Name x px, .Name y py] kt pt] (.Tuple [a, .List [] p3] k2 pt2) pos.line X.env = pure false := by rfl) :
    PS X (.Assign [.Tuple [.Name x px, .Name y py] kt pt] (.Tuple [a, .List [] p3] k2 pt2) pos) (tS X.K T W (spar2m i j fa)) :=
  imS (ps_par hc hN hi hj hij hx hy (pa_cons ha (pa_cons (pe_lst pa_nil) pa_nil rfl) hs2) hw hs) fun D σ H ⟨p, F0, H0, F, env, w, iv, h⟩ => by
    refine ⟨p, F, env, w, iv.iv, PostS.bind iv h fun x1 w1 v1 F1 H1 _ _ _ r1 iv1 h1 => ?_⟩
    exact ⟨Nat.zero_le _, fun q hq => ⟨_, _, rfl, h1 _ F1 _ ((iv1.set r1).lay hq)⟩⟩
theorem s_par2n (i j : Nat) {x y : Str} {px py pt p3 p4 : Pos} {kt k2 pt2} (hc : X.calm = true) (hN : X.N.Nodup) (hij : i ≠ j)
    (hi : X.N[i]? = some x := by rfl) (hj : X.N[j]? = some y := by rfl)
    (hx : X.env.scope.names.lookup x = some .local := by rfl) (hy : X.env.scope.names.lookup y = some .local := by rfl)
    (hw : swappedStores [.Tuple [.Name x px, .Name y py] kt pt] (.Tuple [.List [] p4, .List [] p3] k2 pt2) X.env = pure (some [x, y]) := by rfl)
    (hs : swapsWithSole [.Tuple [.Name x px, .Name y py] kt pt] (.Tuple [.List [] p4, .List [] p3] k2 pt2) pos.line X.env = pure false := by rfl) :
    PS X (.Assign [.Tuple [.Name x px, .Name y py] kt pt] (.Tuple [.List [] p4, .List [] p3] k2 pt2) pos) (tS X.K T W (spar2n i j)) :=
  imS (ps_par hc hN hi hj hij hx hy (pa_cons (pe_lst pa_nil) (pa_cons (pe_lst pa_nil) pa_nil rfl) rfl) hw hs) fun D σ H ⟨p, F0, H0, F, env, w, iv, h⟩ => by
    refine ⟨Nat.zero_le _, fun q hq => ⟨Nat.zero_le _, fun q2 hq2 => ⟨_, _, rfl, ?_⟩⟩⟩
    exact h _ F _ ((iv.lay (i := i) hq).lay (i := j) hq2)
theorem s_par3 (i j l : Nat) {x y z : Str} {px py pz pt : Pos} {kt k2 pt2} (hc : X.calm = true) (hN : X.N.Nodup) (hij : i ≠ j) (hil : i ≠ l) (hjl : j ≠ l) (ha : PE X a (tX X.K T W fa)) (hb : PE X b (tX X.K T W fb)) (hd : PE X c (tX X.K T W fc))
    (hs3 : starEach (a :: [b, c]) X.env = (false, eval a X.env) :: starEach [b, c] X.env := by rfl) (hs2 : starEach (b :: [c]) X.env = (false, eval b X.env) :: starEach [c] X.env := by rfl) (hs1 : starEach (c :: []) X.env = (false, eval c X.env) :: starEach [] X.env := by rfl)
    (hi : X.N[i]? = some x := by rfl) (hj : X.N[j]? = some y := by rfl) (hl : X.N[l]? = some z := by rfl)
    (hx : X.env.scope.names.lookup x = some .local := by rfl) (hy : X.env.scope.names.lookup y = some .local := by rfl) (hz : X.env.scope.names.lookup z = some .local := by rfl)
    (hw : swappedStores [.Tuple [.Name x px, .Name y py, .Name z pz] kt pt] (.Tuple [a, b, c] k2 pt2) X.env = pure (some [x, y, z]) := by rfl)
    (hs : swapsWithSole [.Tuple [.Name x px, .Name y py, .Name z pz] kt pt] (.Tuple [a, b, c] k2 pt2) pos.line X.env = pure false := by rfl) :
    PS X (.Assign [.Tuple [.Name x px, .Name y py, .Name z pz] kt pt] (.Tuple [a, b, c] k2 pt2) pos) (tS X.K T W (spar3 i j l fa fb fc)) :=
  imS (ps_par3 hc hN hi hj hl hij hil hjl hx hy hz (pa_cons ha (pa_cons hb (pa_cons hd pa_nil hs1) hs2) hs3) hw hs) fun D σ H ⟨p, F0, H0, F, env, w, iv, h⟩ => by
    refine ⟨p, F, env, w, iv.iv, PostS.bind iv h fun x1 w1 v1 F1 H1 _ _ _ r1 iv1 h1 => ?_⟩
    refine ⟨p, F1, env, w1, iv1.iv, PostS.bind iv1 h1 fun x2 w2 v2 F2 H2 _ g2 _ r2 iv2 h2 => ?_⟩
    refine ⟨p, F2, env, w2, iv2.iv, PostS.bind iv2 h2 fun x3 w3 v3 F3 H3 _ g3 _ r3 iv3 h3 => ?_⟩
    exact ⟨_, _, _, rfl, h3 _ F3 H3 (((iv3.set ((r1.mono g2.ff).mono g3.ff)).set (r2.mono g3.ff)).set r3)⟩
theorem s_aug (i : Nat) {x : Str} {p2 : Pos} (hN : X.N.Nodup) (ha : PE X a (tX X.K T W fa)) (hi : X.N[i]? = some x := by rfl) (hx : Loc X.env.scope x := by first | exact Or.inl rfl | exact Or.inr rfl)
    (hf : X.fn x = true ∨ X.env.scope.names.lookup x = some .local := by first | exact .inl rfl | exact .inr rfl) : PS X (.AugAssign (.Name x p2) .Add a pos) (tS X.K T W (saug i fa)) :=
  imS (ps_aug hN hi hx ha ip_add hf) fun D σ H ⟨p, F0, H0, F, env, w, iv, h⟩ => by
    obtain ⟨d, e, h1⟩ := PostS.opt h
    obtain ⟨v, ev, rv⟩ := iv.iv.val i d (slot_some e)
    refine ⟨v, ev, p, F, env, w, iv.iv, PostS.bind iv h1 fun x1 w1 v1 F1 H1 _ g1 _ r1 iv1 h2 => ?_⟩
    cases rv with
    | int u =>
      cases r1 with
      | int u1 => exact ⟨u, u1, rfl, rfl, h2 _ F1 H1 (iv1.set (.int _))⟩
      | _ => exact h2.elim
    | _ => exact h2.elim
theorem s_app (i : Nat) {x : Str} {p2 apos cpos : Pos} (ha : PE X a (tX X.K T W fa)) (hN : X.N[i]? = some x := by rfl) (hv : Vis X.env.scope x := by first | exact Or.inl rfl | exact Or.inr (Or.inl rfl) | exact Or.inr (Or.inr rfl)) (hd : (x == ("__debug__" : Str)) = false := by decide)
    (hcd : (x == ("__classdict__" : Str)) = false := by decide) (hbase : attributeBase (.Name x p2) "append" X.env (eval (.Name x p2) X.env) = eval (.Name x p2) X.env := by rfl)
    (hfew : ((backTo cpos (starEach (a :: []) X.env)).all (fun x => !x.1) && (backToKw cpos (keywordEach [] X.env)).all (fun x => x.1.isSome)
      && decide ((a :: []).length + ([] : List Keyword).length + (if ([] : List Keyword).isEmpty then 0 else 1) < 30)) = true := by rfl)
    (hline : (apos.endLine == cpos.line) = true := by rfl) (hs : starEach (a :: []) X.env = (false, eval a X.env) :: starEach [] X.env := by rfl) (hplain : (backTo cpos (starEach [] X.env)).any (·.1) = false := by rfl)
    (hsw : swapsWith (.Call (.Attribute (.Name x p2) "append" apos) [a] [] cpos) none pos.line X.env = pure false := by rfl) :
    PS X (.Expr (.Call (.Attribute (.Name x p2) "append" apos) [a] [] cpos) pos) (tS X.K T W (sapp i fa)) :=
  imS (ps_expr (pe_bm PySem.F.plainAttrs_list PySem.F.slot_list_append PySem.F.type_list_append mt_append (pe_var hN hv hd hcd) (pa_cons ha pa_nil hs) hbase hfew hline hs hplain) hsw) fun D σ H ⟨p, F0, H0, F, env, w, iv, h⟩ => by
    obtain ⟨l, e, h1⟩ := PostS.opt h
    have e := mslot_some e
    obtain ⟨A, vs, g1, g2, g3, g4, g5⟩ := iv.iv.chg i l e
    refine ⟨_, g1, .inl ⟨rfl, _, SqL.of g2⟩, p, F, env, w, iv.iv, PostS.bind iv h1 fun x1 w1 v1 F1 H1 _ k1 _ r1 iv1 h2 => ?_⟩
    split at h2
    · rename_i hsm
      simp only [small, decide_eq_true_eq] at hsm
      have hl := g5.length
      refine ⟨A, vs, v1, rfl, rfl, k1.keep _ _ g4 (nt_lst _) g2, by omega, ?_⟩
      exact h2 _ F1 _ (iv1.put e g1 ((g5.mono k1.ff).append (.cons r1 .nil)))
    · exact h2.elim
theorem s_ins (i : Nat) {x : Str} {p2 apos cpos : Pos} (ha : PE X a (tX X.K T W fa)) (hb : PE X b (tX X.K T W fb)) (hN : X.N[i]? = some x := by rfl) (hv : Vis X.env.scope x := by first | exact Or.inl rfl | exact Or.inr (Or.inl rfl) | exact Or.inr (Or.inr rfl)) (hd : (x == ("__debug__" : Str)) = false := by decide)
    (hcd : (x == ("__classdict__" : Str)) = false := by decide) (hbase : attributeBase (.Name x p2) "insert" X.env (eval (.Name x p2) X.env) = eval (.Name x p2) X.env := by rfl)
    (hfew : ((backTo cpos (starEach (a :: [b]) X.env)).all (fun x => !x.1) && (backToKw cpos (keywordEach [] X.env)).all (fun x => x.1.isSome)
      && decide ((a :: [b]).length + ([] : List Keyword).length + (if ([] : List Keyword).isEmpty then 0 else 1) < 30)) = true := by rfl)
    (hline : (apos.endLine == cpos.line) = true := by rfl) (hs : starEach (a :: [b]) X.env = (false, eval a X.env) :: starEach [b] X.env := by rfl) (hs1 : starEach (b :: []) X.env = (false, eval b X.env) :: starEach [] X.env := by rfl) (hplain : (backTo cpos (starEach [b] X.env)).any (·.1) = false := by rfl)
    (hsw : swapsWith (.Call (.Attribute (.Name x p2) "insert" apos) [a, b] [] cpos) none pos.line X.env = pure false := by rfl) :
    PS X (.Expr (.Call (.Attribute (.Name x p2) "insert" apos) [a, b] [] cpos) pos) (tS X.K T W (sins i fa fb)) :=
  imS (ps_expr (pe_bm PySem.F.plainAttrs_list PySem.F.slot_list_insert PySem.F.type_list_insert mt_insert (pe_var hN hv hd hcd) (pa_cons ha (pa_cons hb pa_nil hs1) hs) hbase hfew hline hs hplain) hsw) fun D σ H ⟨p, F0, H0, F, env, w, iv, h⟩ => by
    obtain ⟨l, e, h1⟩ := PostS.opt h
    have e := mslot_some e
    obtain ⟨A, vs, g1, g2, g3, g4, g5⟩ := iv.iv.chg i l e
    refine ⟨_, g1, .inl ⟨rfl, _, SqL.of g2⟩, p, F, env, w, iv.iv, PostS.bind iv h1 fun x1 w1 v1 F1 H1 _ k1 _ r1 iv1 h2 => ?_⟩
    refine ⟨p, F1, env, w1, iv1.iv, PostS.bind iv1 h2 fun x2 w2 v2 F2 H2 _ k2 _ r2 iv2 h3 => ?_⟩
    cases r1 with
    | int u =>
      simp only at h3
      split at h3
      · rename_i hsm
        simp only [small, Bool.and_eq_true, decide_eq_true_eq] at hsm
        obtain ⟨⟨n1, n2⟩, n3⟩ := hsm
        have hl := g5.length
        have hz : sizeLine = 16777216 := sizeLine_eq
        refine ⟨A, vs, u, v2, rfl, rfl, k2.keep _ _ g4 (nt_lst _) (k1.keep _ _ g4 (nt_lst _) g2), by omega, n1, by omega, ?_⟩
        have ev : vs.take u.toNat ++ [v2] ++ vs.drop u.toNat = vs.insertIdx u.toNat v2 := by
          exact ins_take vs u.toNat v2 (by omega)
        rw [ev]
        exact h3 _ F2 _ (iv2.put e g1 (((g5.mono k1.ff).mono k2.ff).insertIdx u.toNat r2))
      · exact h3.elim
    | _ => exact h3.elim
theorem s_for {t : Tg} {tg iter : Expr} {fs : AF} (hp : PassesOwn (model X.prog X.w) X.A X.env X.xe) (hc : X.calm = true) (hi : PI X tg iter (tI X.K T W fs)) (hg : PG X tg (gOf X.K t)) (hb : PSs X sts (tS X.K T W f))
    (hs : ∀ x, foldedSetIterable iter X.env x = pure x := by intro _; rfl) : PS X (.For tg iter sts [] pos) (tS X.K T W (sfor t fs f)) :=
  imS (ps_for hp hc hi hg hb hs) fun D σ H ⟨p, F0, H0, F, env, w, iv, h⟩ => by
    refine ⟨p, F, env, w, iv.iv, PostS.bind iv h fun l w1 J F1 H1 _ g1 _ rJ iv1 h1 => ?_⟩
    have h1 := PostS.rebase iv1.gr h1
    refine ⟨fun i m σ H => m = l.length - i ∧ i ≤ l.length ∧ ∃ F2 env w, IVS X.K T p F1 H0 F2 H σ env w ∧ PostS X.K T W (forL t f (l.drop i) env w) p F1 H0 D, ⟨l.length, rfl, Nat.zero_le _, F1, env, w1, iv1.based, h1⟩, ?_⟩
    rintro i m σ2 H2 ⟨rfl, hi, F2, env2, w2, iv2, h2⟩
    have x2 := iv2.gr.ff
    by_cases hlt : i < l.length
    · refine .inr ⟨rJ.go i F2 H2 x2 iv2.iv.sub hlt, fun σ H => ∃ F3 env w, IVS X.K T p F1 H0 F3 H σ env w ∧ PostS X.K T W (forL t f (l.drop (i + 1)) env w) p F1 H0 D, fun σ' H' z => ⟨l.length - (i + 1), by omega, rfl, hlt, z⟩, fun x H3 y => ?_⟩
      obtain ⟨d, F3, e3, r3, g3, pn3⟩ := rJ.yld i F2 H2 w2 x H3 x2 iv2.iv.sub iv2.iv.pen hlt y
      have ed : l.drop i = d :: l.drop (i + 1) := by
        rw [List.drop_eq_getElem_cons hlt]
        rw [List.getElem?_eq_getElem hlt] at e3
        cases e3; rfl
      rw [ed] at h2
      unfold forL at h2
      cases q3 : setT env2 t d with
      | none => rw [q3] at h2; exact h2.elim
      | some τ =>
        rw [q3] at h2
        simp only at h2
        have iv3 := iv2.step g3 pn3
        refine setT_okS iv3 r3 q3 fun σ' iv4 => ?_
        refine ⟨p, F1, H0, F3, τ, w2, iv4, PostS.ends h2 fun a w5 _ h5 => ?_⟩
        cases a with
        | nx τ => exact fun σ' F' H' i5 => ⟨F', τ, w5, i5, h5⟩
        | ct τ => exact fun σ' F' H' i5 => ⟨F', τ, w5, i5, h5⟩
        | bk τ => exact h5
        | rt d => exact h5
    · have e : i = l.length := by omega
      subst e
      rw [List.drop_length] at h2
      unfold forL at h2
      exact .inl ⟨rJ.stop F2 H2 x2 iv2.iv.sub, h2 _ F2 H2 iv2⟩
theorem s_while {n : Nat} {c : Expr} (hp : PassesOwn (model X.prog X.w) X.A X.env X.xe) (hc : PT X c (tT X.K T W tc)) (hb : PSs X sts (tS X.K T W f)) : PS X (.While c sts [] pos) (tS X.K T W (swhl n tc f)) :=
  imS (ps_while hp hc hb) fun D σ H ⟨p, F0, H0, F, env, w, iv, h⟩ => by
    refine ⟨fun m σ H => ∃ F env w, IVS X.K T p F0 H0 F H σ env w ∧ PostS X.K T W (whlN tc f m env w) p F0 H0 D, ⟨n, F, env, w, iv, h⟩, ?_⟩
    rintro m σ2 H2 ⟨F2, env2, w2, iv2, h2⟩
    cases m with
    | zero => exact h2.elim
    | succ m =>
      unfold whlN at h2
      refine ⟨p, F2, env2, w2, iv2.iv, PostS.bind iv2 h2 fun k w3 b F3 H3 _ g3 _ rb iv3 h3 => ?_⟩
      have rb : b = k := rb
      subst rb
      cases b with
      | false => exact h3 σ2 F3 H3 iv3
      | true =>
        refine ⟨fun σ H => ∃ F env w, IVS X.K T p F0 H0 F H σ env w ∧ PostS X.K T W (whlN tc f m env w) p F0 H0 D, fun σ' H' z => ⟨m, Nat.lt_succ_self _, z⟩, p, F0, H0, F3, env2, w3, iv3, PostS.ends h3 fun a w5 _ h5 => ?_⟩
        cases a with
        | nx τ => exact fun σ' F' H' i5 => ⟨F', τ, w5, i5, h5⟩
        | ct τ => exact fun σ' F' H' i5 => ⟨F', τ, w5, i5, h5⟩
        | bk τ => exact h5
        | rt d => exact h5
end
end Rh
set_option Elab.async false
set_option linter.all false
set_option maxRecDepth 100000
set_option maxHeartbeats 1000000
/-! Rh: isinstance; defs and their calls by data. -/
namespace Rh
open PySem L2 PySem.Spec PyProof.Rows

/-- the promise of a def that reckons f -/
def spF (K : PySem.W.Frag) (T : Tx) (np : Nat) (f : FnF) : Sp := fun vs H Q E => vs.length = np ∧ ∃ p F ds w, Ext F H ∧ Pen T p F H w ∧ Rps K T p F vs ds ∧ Post K T (RV K T) (f ds w) p F H Q E
/-- a def that reckons f, by its name -/
structure Fd (P : Program) (w : World) (K : PySem.W.Frag) (mg : Str → Option Value) (base : Heap) (T : Tx) (k : Nat) (x : Str) (np : Nat) (g : FnF) : Prop where
  ex : ∃ (f : Addr) (fd : FuncData) (ps : List Str), FnOk P w K mg base (L2.CX P w) k f fd ps (spF K T np g) ∧ mg x = some (.ref f) ∧ PySem.W.keepIn K (.ref f) = true ∧ Binds K fd ps []
  len : ∀ ds u, g ds u ≠ none → ds.length = np
theorem spF_len {K : PySem.W.Frag} {T : Tx} {np : Nat} {f : FnF} {ps : List Str} (hn : ps.length = np) : ∀ vs H Q E, spF K T np f vs H Q E → vs.length = ps.length := fun _ _ _ _ h => by rw [hn]; exact h.1
theorem post_ne {α β : Type} {K : PySem.W.Frag} {T : Tx} {R : Addr → Hp → Hp → β → α → Prop} {m : Option (Out α)} {p : Addr} {F H : Hp} {Q : β → Hp → Prop} {W : XK} (h : Post K T R m p F H Q W) : m ≠ none := fun z => by rw [z] at h; exact h
section
variable {X : Cx} {T : Tx} {W : XK} {x : Str} {np k k' : Nat} {g : FnF} {p1 pos : Pos} {e : Expr} {es : List Expr} {fs : AF}
theorem x_call (F : Fd X.prog X.w X.K X.mg X.base T k x np g) (hr : Room k' X.A) (hp : Passes (L2.CX X.prog X.w) X W) (ha : PA X (e :: es) (tA X.K T W fs)) (hk : k ≤ k' := by decide) (hg : Gl X x := by rfl) (hdb : (x == ("__debug__" : Str)) = false := by decide)
    (he : starEach (e :: es) X.env = (false, eval e X.env) :: starEach es X.env := by rfl) (hpl : (backTo pos (starEach es X.env)).any (·.1) = false := by rfl) :
    PE X (.Call (.Name x p1) (e :: es) [] pos) (tX X.K T W (xcall g fs)) := by
  obtain ⟨f, fd, ps, FO, hm, hkp, hb⟩ := F.ex
  refine imE (pe_call FO (hr.mono hk) hg hm hkp hb .nil hp ha hdb he hpl) fun σ H Q ⟨p, F1, env, w, iv, h⟩ => ?_
  refine ⟨p, F1, env, w, iv, Post.bind h fun ds w1 vs F2 H2 _ g2 pn2 rs h2 => ?_⟩
  refine ⟨?_, p, F2, ds, w1, g2.fh, pn2, by rw [List.append_nil]; exact rs, h2⟩
  rw [List.append_nil, rs.length]
  exact F.len ds w1 (post_ne h2)
end

/-! ### a def by its body -/
section
variable {P : Program} {w : World} {K : PySem.W.Frag} {mg : Str → Option Value} {base : Heap} {T : Tx}
theorem iv_start {p : Addr} {F H : Hp} {vs : List V} {ds : List D} {u : Pn} {N : List Str} (e : Ext F H) (pn : Pen T p F H u) (r : Rps K T p F vs ds) : IV K T p F H (L2.start N vs) (startE N.length ds) u := by
  have hl := r.length
  have out : ∀ {i : Nat} {s : Sl}, (startE N.length ds)[i]? = some (some s) → ∃ d, s = .val d ∧ ds[i]? = some d := fun {i s} q => by
    unfold startE at q
    by_cases h : i < ds.length
    · rw [List.getElem?_append_left (by simpa using h), List.getElem?_map, List.getElem?_eq_getElem h] at q
      cases q
      exact ⟨_, rfl, List.getElem?_eq_getElem h⟩
    · rw [List.getElem?_append_right (by simpa using h), List.getElem?_replicate] at q
      split at q <;> cases q
  refine ⟨e, pn, by simp [L2.start, startE, hl], fun i d q => ?_, fun i l q => ?_, fun i j l m a _ q => ?_⟩
  · obtain ⟨d', e1, e2⟩ := out q
    cases e1
    obtain ⟨v, h1, h2⟩ := r.get e2
    refine ⟨v, ?_, h2⟩
    have hi : i < vs.length := (List.getElem?_eq_some_iff.mp h1).1
    unfold L2.start
    rw [List.getElem?_append_left (by simpa using hi), List.getElem?_map, h1]
    rfl
  · obtain ⟨d', e1, _⟩ := out q; cases e1
  · obtain ⟨d', e1, _⟩ := out q; cases e1
theorem fn_body {np n : Nat} {body : SF} {N : List Str} {vs : List V} {H : Hp} {Q : VK} {E : XK} (hn : N.length = n) (h : spF K T np (fnF np n body) vs H Q E) : tS K T E body { nx := fun _ H' => Q .non H', rt := Q } (L2.start N vs) H := by
  obtain ⟨hl, p, F, ds, u, e, pn, r, h⟩ := h
  unfold fnF at h
  split at h
  · have iv := iv_start (N := N) e pn r
    rw [hn] at iv
    refine ⟨p, F, H, F, startE n ds, u, ⟨iv, Grow.refl e, fun i l a q _ => ?_⟩, ?_⟩
    · have := iv.chg i l q
      obtain ⟨a', vs', h1, _⟩ := this
      have out : ∀ {i : Nat} {l : List D}, (startE n ds)[i]? ≠ some (some (.chg l)) := fun {i l} q => by
        unfold startE at q
        by_cases h : i < ds.length
        · rw [List.getElem?_append_left (by simpa using h), List.getElem?_map, List.getElem?_eq_getElem h] at q
          cases q
        · rw [List.getElem?_append_right (by simpa using h), List.getElem?_replicate] at q
          split at q <;> cases q
      exact absurd q out
    · cases q : body (startE n ds) u with
      | none => rw [q] at h; exact h
      | some o =>
        rw [q] at h
        cases o with
        | ex c d w' => exact h
        | ok f w' =>
          cases f with
          | rt d => exact fun v F' H' g pn' r' => h v F' H' g pn' r'
          | nx τ => exact fun σ F' H' i' => h V.non F' H' i'.gr i'.iv.pen .non
          | bk τ => exact h.elim
          | ct τ => exact h.elim
  · exact h.elim
/-- a def that the text has written -/
theorem fd_of {x qual : Str} {st : Stmt} {f : Addr} {fd : FuncData} {N ps : List Str} {k np n : Nat} {body : SF} (F : L2.Fun K x qual st f fd) (S : FnScope N ps (defScope st)) (hnp : ps.length = np) (hn : N.length = n)
    (hm : mg x = some (.ref f)) (hb : Binds K fd ps [])
    (h : ∀ (cdv : Value) (A : Around) (outer : List Env) (s : Shared) (H : Hp) (E : XK), Room k (A.deeper (envOfC qual (defScope st) s.heap.objs.size f cdv)) →
      PSs (cxOf (L2.CX P w) P w K mg base N qual (defScope st) f cdv A outer s H E) (defBody st) (tS K T E body)) : Fd P w K mg base T (k + 1) x np (fnF np n body) :=
  ⟨⟨f, fd, ps, F.okX S (spF_len hnp) fun cdv A outer s H vs Q E hr hs => ⟨_, h cdv A outer s H E hr, fn_body hn hs⟩, hm, F.kp, hb⟩, fun ds u z => by
    unfold fnF at z
    split at z
    · assumption
    · exact absurd rfl z⟩
/-- in a def's body -/
theorem pass_body {N : List Str} {qual : Str} {sc : Scope} {f : Addr} {cdv : Value} {A : Around} {outer : List Env} {s : Shared} {H : Hp} {E : XK} : Passes (L2.CX P w) (cxOf (L2.CX P w) P w K mg base N qual sc f cdv A outer s H E) E :=
  passes_call (takes_of rfl rfl rfl rfl) fun _ _ _ _ h => h
theorem takes_body {N : List Str} {qual : Str} {sc : Scope} {f : Addr} {cdv : Value} {A : Around} {outer : List Env} {s : Shared} {H : Hp} {E : XK} : Takes (cxOf (L2.CX P w) P w K mg base N qual sc f cdv A outer s H E) (fun cls d _ H => E cls d H) :=
  takes_of rfl rfl rfl rfl
theorem own_body {N : List Str} {qual : Str} {sc : Scope} {f : Addr} {cdv : Value} {A : Around} {outer : List Env} {s : Shared} {H : Hp} {E : XK} : PassesOwn (model P w) (cxOf (L2.CX P w) P w K mg base N qual sc f cdv A outer s H E).A (cxOf (L2.CX P w) P w K mg base N qual sc f cdv A outer s H E).env (cxOf (L2.CX P w) P w K mg base N qual sc f cdv A outer s H E).xe :=
  passes_of rfl
end

/-! ### isinstance -/
/-- what is known of the text's own classes -/
structure ClsOk (K : PySem.W.Frag) (T : Tx) (c : Nat) : Prop where
  cl : Cls K (T.ca c)
  ha : PySem.W.findIn K (.ref (T.ca c)) "__class__" = some (some (.builtin "object.__class__"))
  hn : PySem.W.specialIn K (.builtin "object.__class__") "__get__" = some (some (.builtin "getset_descriptor.__get__"))
  htk : PySem.W.takesIn K (.builtin "object.__class__") = some true
  hm : PySem.W.mroIn K (T.ca c) (.type "object") = some true
def D.ty (T : Tx) : D → Option Value
  | .non => some (.type "NoneType")
  | .bl _ => some (.type "bool")
  | .int _ => some (.type "int")
  | .str _ => some (.type "str")
  | .tup _ => some (.type "tuple")
  | .lst _ => some (.type "list")
  | .ins c _ => some (.ref (T.ca c))
  | .dic0 => some (.type "dict")
  | .pen => none
theorem ty_of {K : PySem.W.Frag} {T : Tx} {p : Addr} {F H : Hp} {v : V} {d : D} {t : Value} (hc : ∀ c l, d = .ins c l → ClsOk K T c) (e : Ext F H) (r : Rp K T p F v d) (h : d.ty T = some t) : TyX K H v t := by
  cases r with
  | non => cases h; exact .base .non
  | bl b => cases h; exact .base (.bl b)
  | int i => cases h; exact .base (.int i)
  | str x => cases h; exact .base (.str x)
  | tup h1 r =>
    cases h
    rcases h1 with (h1 | ⟨o, h1⟩) | ⟨o, its, n, h1, h2, _⟩
    · exact .base (.tup (e _ _ h1))
    · exact .fTuple (e _ _ h1)
    · exact .kTuple h1 h2
  | lst h1 r => cases h; exact .base (.lst (e _ _ h1))
  | ins h1 n r =>
    cases h
    have c := hc _ _ rfl
    exact .base (.ins (e _ _ h1) c.cl c.ha c.hn c.htk c.hm)
  | dic0 h1 => cases h; exact .base (.dK (e _ _ h1))
  | pen => cases h
/-- isinstance of a built-in type -/
theorem kit_int {T : Tx} {d : D} {b : Bool} (h : isiF d .int = some b) (ni : ∀ c l, d ≠ .ins c l) : ∃ t, d.ty T = some t ∧ ∀ K, PySem.W.kitOne K t (.type "int") = some b := by
  cases d with
  | ins c l => exact absurd rfl (ni c l)
  | pen => cases h
  | _ => cases h; exact ⟨_, rfl, fun K => kit_ty (by decide +kernel)⟩
theorem kit_bool {T : Tx} {d : D} {b : Bool} (h : isiF d .bool = some b) (ni : ∀ c l, d ≠ .ins c l) : ∃ t, d.ty T = some t ∧ ∀ K, PySem.W.kitOne K t (.type "bool") = some b := by
  cases d with
  | ins c l => exact absurd rfl (ni c l)
  | pen => cases h
  | _ => cases h; exact ⟨_, rfl, fun K => kit_ty (by decide +kernel)⟩
theorem kit_lt {T : Tx} {d : D} {b : Bool} (h : isiF d .listTuple = some b) (ni : ∀ c l, d ≠ .ins c l) : ∃ t, d.ty T = some t ∧ ∀ K, PySem.W.kitAny K t [.type "list", .type "tuple"] = some b := by
  cases d with
  | ins c l => exact absurd rfl (ni c l)
  | pen => cases h
  | tup l => cases h; exact ⟨_, rfl, fun K => kitAny_cons (b := false) (kit_ty (by decide +kernel)) (fun _ => kitAny_cons (b := true) (kit_ty (by decide +kernel)) (fun z => nomatch z) (fun _ => rfl)) (fun z => nomatch z)⟩
  | lst l => cases h; exact ⟨_, rfl, fun K => kitAny_cons (b := true) (kit_ty (by decide +kernel)) (fun z => nomatch z) (fun _ => rfl)⟩
  | _ => cases h; exact ⟨_, rfl, fun K => kitAny_cons (b := false) (kit_ty (by decide +kernel)) (fun _ => kitAny_cons (b := false) (kit_ty (by decide +kernel)) (fun _ => kitAny_nil) (fun z => nomatch z)) (fun z => nomatch z)⟩
/-- what isinstance with a class answers of the own classes -/
structure IsiOk (K : PySem.W.Frag) (T : Tx) : Prop where
  cls : ∀ c, ClsOk K T c
  int : ∀ c, PySem.W.kitOne K (.ref (T.ca c)) (.type "int") = some false
  bool : ∀ c, PySem.W.kitOne K (.ref (T.ca c)) (.type "bool") = some false
  list : ∀ c, PySem.W.kitOne K (.ref (T.ca c)) (.type "list") = some false
  tuple : ∀ c, PySem.W.kitOne K (.ref (T.ca c)) (.type "tuple") = some false
section
variable {X : Cx} {T : Tx} {W : XK} {pos p1 p2 p3 : Pos} {a : Expr} {fa : XF}
theorem x_isiInt (I : IsiOk X.K T) (hm : X.mg "isinstance" = none) (hm2 : X.mg "int" = none) (ha : PE X a (tX X.K T W fa)) (hg : Gl X "isinstance" := by rfl) (hg2 : Gl X "int" := by rfl)
    (hs : starEach (a :: [.Name "int" p2]) X.env = (false, eval a X.env) :: starEach [.Name "int" p2] X.env := by rfl) (hpl : (backTo pos (starEach [.Name "int" p2] X.env)).any (·.1) = false := by rfl) :
    PE X (.Call (.Name "isinstance" p1) [a, .Name "int" p2] [] pos) (tX X.K T W (xisi fa .int)) :=
  imE (pe_callB call_isi hg hm PyProof.Rows.boot_isinstance (pa_cons ha (pa_cons (pe_bltn hg2 hm2 PyProof.Rows.boot_int (v := .ty "int") rfl) pa_nil rfl) hs) (by decide) (by decide) hs hpl) fun σ H Q ⟨p, F, env, w, iv, h⟩ => by
    refine ⟨p, F, env, w, iv, Post.bind h fun x w1 v F1 H1 _ g1 pn1 rx h1 => ?_⟩
    obtain ⟨d, e, h2⟩ := Post.opt1 h1
    rw [Option.map_eq_some_iff] at e
    obtain ⟨b, e, rfl⟩ := e
    have q := h2.here g1.fh pn1 (b := V.bl b) (.bl b)
    refine ⟨v, .ty "int", ?_⟩
    by_cases hi : ∃ c l, x = .ins c l
    · obtain ⟨c, l, rfl⟩ := hi
      cases e
      exact ⟨_, _, false, rfl, .ty _, ty_of (fun _ _ z => by cases z; exact I.cls _) g1.fh rx rfl, I.int c, q⟩
    · obtain ⟨t, e1, e2⟩ := kit_int (T := T) e fun c l z => hi ⟨c, l, z⟩
      exact ⟨t, _, b, rfl, .ty _, ty_of (fun c l z => absurd ⟨c, l, z⟩ hi) g1.fh rx e1, e2 _, q⟩
theorem x_isiBool (I : IsiOk X.K T) (hm : X.mg "isinstance" = none) (hm2 : X.mg "bool" = none) (ha : PE X a (tX X.K T W fa)) (hg : Gl X "isinstance" := by rfl) (hg2 : Gl X "bool" := by rfl)
    (hs : starEach (a :: [.Name "bool" p2]) X.env = (false, eval a X.env) :: starEach [.Name "bool" p2] X.env := by rfl) (hpl : (backTo pos (starEach [.Name "bool" p2] X.env)).any (·.1) = false := by rfl) :
    PE X (.Call (.Name "isinstance" p1) [a, .Name "bool" p2] [] pos) (tX X.K T W (xisi fa .bool)) :=
  imE (pe_callB call_isi hg hm PyProof.Rows.boot_isinstance (pa_cons ha (pa_cons (pe_bltn hg2 hm2 PyProof.Rows.boot_bool (v := .ty "bool") rfl) pa_nil rfl) hs) (by decide) (by decide) hs hpl) fun σ H Q ⟨p, F, env, w, iv, h⟩ => by
    refine ⟨p, F, env, w, iv, Post.bind h fun x w1 v F1 H1 _ g1 pn1 rx h1 => ?_⟩
    obtain ⟨d, e, h2⟩ := Post.opt1 h1
    rw [Option.map_eq_some_iff] at e
    obtain ⟨b, e, rfl⟩ := e
    have q := h2.here g1.fh pn1 (b := V.bl b) (.bl b)
    refine ⟨v, .ty "bool", ?_⟩
    by_cases hi : ∃ c l, x = .ins c l
    · obtain ⟨c, l, rfl⟩ := hi
      cases e
      exact ⟨_, _, false, rfl, .ty _, ty_of (fun _ _ z => by cases z; exact I.cls _) g1.fh rx rfl, I.bool c, q⟩
    · obtain ⟨t, e1, e2⟩ := kit_bool (T := T) e fun c l z => hi ⟨c, l, z⟩
      exact ⟨t, _, b, rfl, .ty _, ty_of (fun c l z => absurd ⟨c, l, z⟩ hi) g1.fh rx e1, e2 _, q⟩
theorem x_isiLT {k : Nat} {p4 : Pos} (I : IsiOk X.K T) (hm : X.mg "isinstance" = none) (hm2 : X.mg "list" = none) (hm3 : X.mg "tuple" = none) (ha : PE X a (tX X.K T W fa)) (hg : Gl X "isinstance" := by rfl) (hg2 : Gl X "list" := by rfl) (hg3 : Gl X "tuple" := by rfl)
    (hs : starEach (a :: [.Tuple [.Name "list" p2, .Name "tuple" p3] k p4]) X.env = (false, eval a X.env) :: starEach [.Tuple [.Name "list" p2, .Name "tuple" p3] k p4] X.env := by rfl) (hpl : (backTo pos (starEach [.Tuple [.Name "list" p2, .Name "tuple" p3] k p4] X.env)).any (·.1) = false := by rfl) :
    PE X (.Call (.Name "isinstance" p1) [a, .Tuple [.Name "list" p2, .Name "tuple" p3] k p4] [] pos) (tX X.K T W (xisi fa .listTuple)) :=
  imE (pe_callB call_isiT hg hm PyProof.Rows.boot_isinstance (pa_cons ha (pa_cons (pe_tup (pa_cons (pe_bltn hg2 hm2 PyProof.Rows.boot_list (v := .ty "list") rfl) (pa_cons (pe_bltn hg3 hm3 PyProof.Rows.boot_tuple (v := .ty "tuple") rfl) pa_nil rfl) rfl)) pa_nil rfl) hs) (by decide) (by decide) hs hpl) fun σ H Q ⟨p, F, env, w, iv, h⟩ => by
    refine ⟨p, F, env, w, iv, Post.bind h fun x w1 v F1 H1 _ g1 pn1 rx h1 => ?_⟩
    obtain ⟨d, e, h2⟩ := Post.opt1 h1
    rw [Option.map_eq_some_iff] at e
    obtain ⟨b, e, rfl⟩ := e
    refine ⟨by decide, fun A hA => ?_⟩
    have q : Q (V.bl b) (upd H1 A (.tup [.ty "list", .ty "tuple"])) := h2 (V.bl b) F1 _ (Grow.lay g1.fh hA) (pn1.lay hA) (.bl b)
    have ex : Ext F1 (upd H1 A (.tup [.ty "list", .ty "tuple"])) := g1.fh.trans (ext_put hA)
    have pr : Paired ClsV [V.ty "list", V.ty "tuple"] [Value.type "list", Value.type "tuple"] := .cons (.ty _) (.cons (.ty _) .nil)
    by_cases hi : ∃ c l, x = .ins c l
    · obtain ⟨c, l, rfl⟩ := hi
      cases e
      exact ⟨v, A, _, _, _, false, rfl, upd_same, pr, ty_of (fun _ _ z => by cases z; exact I.cls _) ex rx rfl, kitAny_cons (I.list c) (fun _ => kitAny_cons (I.tuple c) (fun _ => kitAny_nil) (fun z => nomatch z)) (fun z => nomatch z), q⟩
    · obtain ⟨t, e1, e2⟩ := kit_lt (T := T) e fun c l z => hi ⟨c, l, z⟩
      exact ⟨v, A, _, t, _, b, rfl, upd_same, pr, ty_of (fun c l z => absurd ⟨c, l, z⟩ hi) ex rx e1, e2 _, q⟩
/-- isinstance(x, C), C an own class -/
theorem x_isiCls {cn : Str} {C : Addr} {yes no : List Nat} (I : IsiOk X.K T) (hm : X.mg "isinstance" = none) (hm2 : X.mg cn = some (.ref C)) (ha : PE X a (tX X.K T W fa))
    (hb : ∀ n, (["NoneType", "bool", "int", "str", "tuple", "list", "dict"].contains n) = true → PySem.W.kitOne X.K (.type n) (.ref C) = some false) (hy : ∀ c, yes.contains c = true → PySem.W.kitOne X.K (.ref (T.ca c)) (.ref C) = some true) (hn : ∀ c, yes.contains c = false → no.contains c = true → PySem.W.kitOne X.K (.ref (T.ca c)) (.ref C) = some false)
    (hg : Gl X "isinstance" := by rfl) (hg2 : Gl X cn := by rfl) (hdb : (cn == ("__debug__" : Str)) = false := by decide)
    (hs : starEach (a :: [.Name cn p2]) X.env = (false, eval a X.env) :: starEach [.Name cn p2] X.env := by rfl) (hs1 : starEach (.Name cn p2 :: []) X.env = (false, eval (.Name cn p2) X.env) :: starEach [] X.env := by rfl) (hpl : (backTo pos (starEach [.Name cn p2] X.env)).any (·.1) = false := by rfl) :
    PE X (.Call (.Name "isinstance" p1) [a, .Name cn p2] [] pos) (tX X.K T W (xisi fa (.cls yes no))) :=
  imE (pe_callB call_isi hg hm PyProof.Rows.boot_isinstance (pa_cons ha (pa_cons (pe_glob hg2 hm2 (v := .ref C) rfl hdb) pa_nil hs1) hs) (by decide) (by decide) hs hpl) fun σ H Q ⟨p, F, env, w, iv, h⟩ => by
    refine ⟨p, F, env, w, iv, Post.bind h fun x w1 v F1 H1 _ g1 pn1 rx h1 => ?_⟩
    obtain ⟨d, e, h2⟩ := Post.opt1 h1
    rw [Option.map_eq_some_iff] at e
    obtain ⟨b, e, rfl⟩ := e
    have q := h2.here g1.fh pn1 (b := V.bl b) (.bl b)
    refine ⟨v, .ref C, ?_⟩
    have go : ∀ t, x.ty T = some t → PySem.W.kitOne X.K t (.ref C) = some b → ∃ (t u : Value) (b' : Bool), [v, .ref C] = [v, .ref C] ∧ ClsV (.ref C) u ∧ TyX X.K H1 v t ∧ PySem.W.kitOne X.K t u = some b' ∧ Q (.bl b') H1 := fun t e1 e2 =>
      ⟨t, _, b, rfl, .own C, ty_of (fun c l _ => I.cls c) g1.fh rx e1, e2, q⟩
    cases x with
    | ins c l =>
      refine go _ rfl ?_
      have e : (if yes.contains c = true then some true else if no.contains c = true then some false else none) = some b := e
      by_cases z : yes.contains c = true
      · rw [if_pos z] at e; cases e; exact hy c z
      · rw [if_neg z] at e
        by_cases z2 : no.contains c = true
        · rw [if_pos z2] at e; cases e; exact hn c (by simpa using z) z2
        · rw [if_neg z2] at e; cases e
    | pen => cases e
    | _ => cases e; exact go _ rfl (hb _ (by decide))
end
end Rh
set_option Elab.async false
set_option linter.all false
set_option maxRecDepth 100000
set_option maxHeartbeats 2000000
/-! Rh: own errors whose __init__ says super().__init__(text) and stores one field of its parameter's name. -/
namespace PySem
namespace RhX
open PySem.W PySem.Calls PyProof.Rows PySem.HandSPX
def iA (p1 p2 : Pos) : Arguments := { posonlyargs := [], args := [{ arg := "self", annotation := none, pos := p1 }, { arg := "part", annotation := none, pos := p2 }], vararg := none, kwonlyargs := [], kw_defaults := [], kwarg := none, defaults := [] }
def iB (msg : Str) (j : Nat) (q0 q1 q2 q3 q4 q5 q6 q7 q8 q9 : Pos) : List Stmt := [.Expr (.Call (.Attribute (.Call (.Name "super" q0) [] [] q1) "__init__" q2) [.Constant (.str msg) j q3] [] q4) q5, .Assign [.Attribute (.Name "self" q6) "part" q7] (.Name "part" q8) q9]
def iS : Scope := { kind := .function, names := [(PySem.Str.ofString "self", .local), (PySem.Str.ofString "part", .local), (PySem.Str.ofString "__class__", .free), (PySem.Str.ofString "super", .globalImplicit)], isGenerator := false, isCoroutine := false, more := [] }
/-- what the written part says of the class cn at C, of its __init__ at fI -/
structure ErrTxt (P : Program) (K : Frag) (mg : Str → Option Value) (cn : Str) (C fI : Addr) : Prop where
  gC : mg cn = some (.ref C)
  cls : ∃ nm q N bs bm sn sub ab col dd k0 k1 k2 k3 k5, K.lookup C = some (excClassObj nm q C N bs bm true sn sub ab col dd k0 k1 k2 k3 k5 "ValueError.__new__") ∧ refsVE bm = true ∧ alongIn K "__init__" bm = some (some (.builtin "ValueError.__init__"))
  sa : findIn K (.ref C) "__setattr__" = some (some (.builtin "object.__setattr__"))
  ga : findIn K (.ref C) "__getattribute__" = some (some (.builtin "BaseException.__getattribute__"))
  gg : findIn K (.ref C) "__getattr__" = some none
  noN : findIn K (.ref C) "part" = some none
  iC : findIn K (.ref C) "__init__" = some (some (.ref fI))
  tC : typeIn K (.ref fI) = some (.type "function")
  kC : keepIn K (.ref C) = true
  exC : subIn K (.ref C) (.type "BaseException") = some true
  veC : subIn K (.ref C) (.type "ValueError") = some true
  tyC : typeIn K (.ref C) = some (.type "type")
  hdC : hasDictIn K C = true
  ccM : mroIn K C (.ref C) = some true
  su : mg "super" = none
  opq : nsIn K cStatics "thirdparty.any" = some none
  fn : ∃ (oc : Value) (od : Option Addr) (doc pm : Value) (an : Option Addr) (cda : Addr) (ct : Value) (osl : Array (Option Value)) (cc : Addr) (qual : Str) (msg : Str) (j : Nat) (p1 p2 q0 q1 q2 q3 q4 q5 q6 q7 q8 q9 : Pos) (cl : Value) (cld : Option Addr) (csl : Array (Option Value)) (ccl : Value) (cdd : Option Addr) (vs : Array Value) (ccs : Array (Option Value)) (file : Str) (tf : Tok),
    K.lookup fI = some ⟨oc, od, .func (ksFn "__init__" qual (iA p1 p2) (iB msg j q0 q1 q2 q3 q4 q5 q6 q7 q8 q9) iS .none .none doc pm an (.ref cda) ct cc), osl⟩ ∧ codeIn K (.ref cda) qual = true ∧
    K.lookup cc = some ⟨cl, cld, .cell (some (.ref C)), csl⟩ ∧ K.lookup cda = some ⟨ccl, cdd, .fields vs, ccs⟩ ∧ vs[2]? = some (.str file tf) ∧ ((P.main.file : Str) == file) = true ∧ (q2.endLine == q4.line) = true
  top : (P.main.scope.names.lookup ("super" : Str)).isSome = false
/-- what __init__ leaves of a fresh exception at x -/
structure InitEnd (h h' : Heap) (x C dx : Addr) (v : Value) : Prop where
  keep : ∀ b o, b ≠ x → h.get? b = some o → h'.get? b = some o
  obj : ∃ t1, h'.get? x = some { cls := .ref C, dict := some dx, data := .fields #[.ref t1, .none, .none, .none, .bool false, .none] }
  dbig : h.objs.size ≤ dx
  dne : dx ≠ x
  ns : h'.Ns1 dx (fun y => if y = "part" then some v else none)
structure OwnMade (h h' : Heap) (e C d : Addr) (v : Value) : Prop where
  keep : ∀ b o, h.get? b = some o → h'.get? b = some o
  new : h.objs.size ≤ e
  obj : ∃ oe vs, h'.get? e = some oe ∧ oe.cls = .ref C ∧ oe.dict = some d ∧ oe.data = .fields vs ∧ vs[1]? = some .none
  dbig : h.objs.size ≤ d
  dne : d ≠ e
  ns : h'.Ns1 d (fun y => if y = "part" then some v else none)
theorem one_size (v : Value) : [v].length ≤ sizeLine := by
  rw [sizeLine_eq]
  exact (by decide : 1 ≤ 16777216)
theorem kept_but {K : Frag} {h h' : Heap} {x : Addr} (X : K.In h) (hx : K.lookup x = none) (k : ∀ b o, b ≠ x → h.get? b = some o → h'.get? b = some o) : K.In h' := fun a o e =>
  k a o (fun z => by rw [z, hx] at e; cases e) (X a o e)
section
variable {prog : Program} {w : World} {A : Around} {E : Value → Shared → Prop} {R : Result → Shared → Prop} {s : Shared} {K : Frag} {mg : Str → Option Value} {cn : Str} {C fI : Addr} {base : Heap}
theorem err_init (T : ErrTxt prog K mg cn C fI) (MO : L2.Mod K mg base) (kb : ∀ b o, base.get? b = some o → s.heap.get? b = some o) {x t0 : Addr} {v : Value} (hx : s.heap.get? x = some (excO C t0)) (hnx : K.lookup x = none) (hroom : A.depth < recursionLimit)
    (hq : ∀ h' tk dx, InitEnd s.heap h' x C dx v → R (.ok (.ret .none)) { s with heap := h', toks := tk }) :
    codeAny (model prog w) A (.call (.ref fI) ⟨[.ref x, v], []⟩) R s := by
  have X : K.In s.heap := MO.kin.keeps kb
  have hlim : s.heap.NoLimit := MO.nolimit.keeps kb
  obtain ⟨oc, od, doc, pm, an, cda, ct, osl, cc, qual, msg, j, p1, p2, q0, q1, q2, q3, q4, q5, q6, q7, q8, q9, cl, cld, csl, ccl, cdd, vs, ccs, file, tf, ho, hcd, hcell, hcode, hvs, hfile, hline⟩ := T.fn
  obtain ⟨nm, q, N, bs, bm, sn, sub, ab, col, dd, k0, k1, k2, k3, k5, hC, hbm, hal⟩ := T.cls
  have hcl : clsIn K C = some { name := nm, bases := bs, mro := .ref C :: bm, ns := N, qualname := q, hasDict := true, slotNames := sn, subclasses := sub, abstract := ab, collection := col, hasDel := false } := by unfold clsIn; rw [hC] <;> rfl
  have hsl : ((Value.ref C :: bm).dropWhile (· != .ref C)).drop 1 = bm := by simp [List.dropWhile_cons]
  have hxL : s.heap.objs.size ≠ x := Nat.ne_of_gt (Heap.lt_size hx)
  refine ks_codeAny_call_defAt (fd := ksFn "__init__" qual (iA p1 p2) (iB msg j q0 q1 q2 q3 q4 q5 q6 q7 q8 q9) iS .none .none doc pm an (.ref cda) ct cc) (body := iB msg j q0 q1 q2 q3 q4 q5 q6 q7 q8 q9) (binds := [("self", .ref x), ("part", v)]) hroom (X _ _ ho) rfl hlim (codeRec_of X hcd) rfl
    (BindsTo.of_eq (by first | rfl | with_unfolding_all rfl)) (show ∀ x ∈ iS.names, x.2 ≠ .cell by decide) (by intro y hy; rcases List.mem_cons.mp hy with e | hy; (· subst e; rfl); rcases List.mem_cons.mp hy with e | hy; (· subst e; rfl); cases hy) (fun h₁ hns k => ?_) rfl rfl rfl
  generalize hL : s.heap.objs.size = L at *
  have hdl : (("part" : Str) == ("self" : Str)) = false := by decide
  have e1 : (([("self", Value.ref x), ("part", v)] : List (Str × Value)).reverse.lookup ("self" : Str)) = some (.ref x) := by first | rfl | decide | with_unfolding_all rfl
  have e2 : (([("self", Value.ref x), ("part", v)] : List (Str × Value)).reverse.lookup ("part" : Str)) = some v := by first | rfl | decide | with_unfolding_all rfl
  have X1 : K.In h₁ := X.keeps k
  have hx1 := k _ _ hx
  have hxne : h₁.get? x = some (excO C t0) := hx1
  show _root_.PySem.wpAt (model prog w) (A.deeper (ksEnv qual iS L fI (.ref cda) cc)) (.func (iB msg j q0 q1 q2 q3 q4 q5 q6 q7 q8 q9) (ksEnv qual iS L fI (.ref cda) cc)) (execs (iB msg j q0 q1 q2 q3 q4 q5 q6 q7 q8 q9) (ksEnv qual iS L fI (.ref cda) cc)) _ _ _
  refine ks_wpAt_execs_cons (ks_wpAt_Expr_any (ks_wpAt_MethodCall (pl := L2.plainOf (.Call (.Name "super" q0) [] [] q1) (ksEnv qual iS L fI (.ref cda) cc)) ?_ ?he))
  case he =>
    rw [arm_eval_Call]
    refine congrArg _ (funext fun ov => ?_)
    refine congrArg _ (funext fun _ => ?_)
    exact L2.mcall_line (by rfl) hline
  refine ks_wpAt_super_base (env := ksEnv qual iS L fI (.ref cda) cc) (ar := { arg := "self", annotation := none, pos := p1 }) (by rfl) (by rfl) (by decide) rfl (X1 _ _ ho) rfl rfl rfl (X1 _ _ hcode) rfl hvs hfile T.top ?_
  obtain ⟨mb, hb1, hb2⟩ := MO.blt
  have kb1 : ∀ b o, base.get? b = some o → h₁.get? b = some o := fun b o e => k b o (kb b o e)
  refine ks_loadName_global rfl (by rfl) (loadGlobal_builtin (env := ksEnv qual iS L fI (.ref cda) cc) (MO.glob.keeps kb1) T.su (hb1.keeps kb1) ((hb2 _ (by decide)).trans (show bootBuiltins "super" = some (.type "super") by decide +kernel)) ⟨rfl, ?_⟩)
  refine wpAny_loadName_free rfl (by rfl) rfl ⟨_, X1 _ _ hcell, rfl⟩ ?_
  refine wpAny_loadName_local rfl (by rfl) hns e1 ?_
  have hC1 := X1 _ _ hC
  refine ks_wpAny_isType_cls hC1 rfl ⟨rfl, ?_⟩
  refine ks_wpAny_call_super hC1 rfl hx1 rfl (fun c e => nomatch e) (looks_mroIn X1 T.ccM) (fun h2 hso k2 => ?_)
  have X2 : K.In h2 := X1.keeps k2
  have hx2 := k2 _ _ hx1
  have I2 : InstAt h2 x (excO C t0) C none := ⟨hx2, rfl, rfl, trivial⟩
  refine kxs_getMethod kxs_ValueError hso (looks_opaque X2 T.opq) (l₀ := .ref C :: bm) (fun A Q E s k q => wpAny_bind ((looks_clsIn X2 hcl) A _ E s k (wpAny_pure q))) hsl X2 hal (I2.type.andThen (looks_subIn X2 T.veC)) (ks_ne X2 I2 hcl) (by decide) ?_
  generalize hu : h2.objs.size = u
  have k3 : ∀ b o, h2.get? b = some o → (h2.push (kxs_mw "ValueError.__init__" x)).get? b = some o := fun b o e => Heap.get?_push_of_some _ e
  have hu3 : (h2.push (kxs_mw "ValueError.__init__" x)).get? u = some (kxs_mw "ValueError.__init__" x) := by rw [← hu]; exact Heap.get?_push_at rfl rfl
  generalize hh3 : h2.push (kxs_mw "ValueError.__init__" x) = h3 at *
  have X3 : K.In h3 := X2.keeps k3
  have hx3 := k3 _ _ hx2
  have hC3 := X3 _ _ hC
  have kk3 : ∀ b o, s.heap.get? b = some o → h3.get? b = some o := fun b o e => k3 b o (k2 b o (k b o e))
  have hns3 : h3.Ns L (fun y => ([("self", Value.ref x), ("part", v)] : List (Str × Value)).reverse.lookup y) := hns.keeps fun b o e => k3 b o (k2 b o e)
  refine kxs_callWith (i := "ValueError.__init__") (x := x) (by rfl) (evalArgs_plain (Calls.spliced_cons (Calls.Constant_str (pos := q3) (k := j) (Calls.spliced_nil ⟨hu3, ?_⟩))))
  refine wpAny_call (codeAny_of_tree ?_)
  show wpAny _ (A.deeper (ksEnv qual iS L fI (.ref cda) cc)).in1 (callAny (.ref u) ⟨_, []⟩) _ _ _
  simp only [callAny]
  refine wpAny_bind (wpAny_load hu3 ?_)
  simp only [kxs_mw, show (Value.type "method-wrapper" == Value.type "method" || Value.type "method-wrapper" == Value.type "builtin_function_or_method" || Value.type "method-wrapper" == Value.type "method-wrapper") = true by decide, if_true]
  refine KFB.if_so (by decide) ?_
  have FB := F.excBase_ValueError
  refine wpAny_bind (check_bound_init FB.toExcCallFacts hC3 hx3 rfl ?_)
  refine wpAny_bind (wpAny_pure (wpAny_pure ?_))
  refine ⟨plainId_quiet FB.init.plain _, codeAny_builtin FB.initEntry ?_⟩
  refine exc_init_tree (cls := .ref C) (t0 := t0) (dv := none) (c2 := .none) (c3 := .none) (b4 := .bool false) hx3 (by rw [sizeLine_eq]; exact (by decide : 1 ≤ 16777216)) fun h4 k4 hx4 ht4 => ?_
  have X4 : K.In h4 := kept_but X3 hnx k4
  have hns4 : h4.Ns L (fun y => ([("self", Value.ref x), ("part", v)] : List (Str × Value)).reverse.lookup y) := by
    obtain ⟨oL, es, ep, h1, r⟩ := hns3
    exact ⟨oL, es, ep, k4 _ _ hxL h1, r⟩
  refine wpAt_of_wpAny (wpAny_execs_cons (plainObj_wpAny_Assign_Attribute ?_))
  refine ESX.ldL (env := ksEnv qual iS L fI (.ref cda) cc) hns4 e2 (ESX.ldL (env := ksEnv qual iS L fI (.ref cda) cc) hns4 e1 ?_)
  refine set_plain X4 (ox := { cls := .ref C, data := .fields #[.ref h3.objs.size, .none, .none, .none, .bool false, .none] }) (od := none) ⟨hx4, rfl, rfl, trivial⟩ T.sa ?_
  refine exc_osa X4 hx4 hcl (show refsVE (.ref C :: bm) = true from hbm) rfl T.noN (fun h5 tk5 dx k5 dn dne hx5 hn5 => ?_)
  show wpAny _ _ (execs _ _) _ _ _
  have le4 : L ≤ h4.objs.size := Nat.le_of_lt (by
    obtain ⟨oL, es, ep, h1, r⟩ := hns4
    exact Heap.lt_size h1)
  exact wpAny_execs_nil (hq h5 tk5 dx ⟨fun b o hb e => k5 b o hb (k4 b o hb (kk3 b o e)), ⟨_, hx5⟩, (by rw [hL]; exact Nat.le_trans le4 dn), dne, hn5⟩)
theorem err_made (T : ErrTxt prog K mg cn C fI) (MO : L2.Mod K mg base) (kb : ∀ b o, base.get? b = some o → s.heap.get? b = some o) {v : Value} (hroom : A.depth + 1 < recursionLimit)
    (hq : ∀ h' tk e d, OwnMade s.heap h' e C d v → R (.ok (.ret (.ref e))) { s with heap := h', toks := tk }) :
    codeAny (model prog w) A (.call (.ref C) ⟨[v], []⟩) R s := by
  have X : K.In s.heap := MO.kin.keeps kb
  obtain ⟨nm, q, N, bs, bm, sn, sub, ab, col, dd, k0, k1, k2, k3, k5, hC, hbm, hal⟩ := T.cls
  obtain ⟨hp, g, dr, tk, os⟩ := s
  have k : ∀ b o, hp.get? b = some o → ((hp.push (kdv_tup [v])).push (excO C hp.objs.size)).get? b = some o := fun b o e => Heap.get?_push_of_some _ (Heap.get?_push_of_some _ e)
  have hget : ((hp.push (kdv_tup [v])).push (excO C hp.objs.size)).get? (hp.objs.size + 1) = some (excO C hp.objs.size) := by heap_get
  have hnx : K.lookup (hp.objs.size + 1) = none := by
    cases e : K.lookup (hp.objs.size + 1) with
    | none => rfl
    | some o =>
      have z : hp.get? (hp.objs.size + 1) = some o := X _ _ e
      exact absurd (Nat.lt_of_succ_lt (Heap.lt_size z)) (Nat.lt_irrefl _)
  refine call_own F.excBase_ValueError (fun X => refsVE_contains X bm hbm) (X _ _ hC) (looks_findIn X T.iC) (fun self => bind_fn X self T.tC) (one_size v) ?_
  refine err_init (s := ⟨(hp.push (kdv_tup [v])).push (excO C hp.objs.size), g, dr, tk, os⟩) T MO (fun b o e => k b o (kb b o e)) hget hnx ?_ fun h' tk' dx ⟨k', ⟨t1, hx⟩, dn, dne, hns⟩ => ?_
  · show A.depth + 1 < recursionLimit
    exact hroom
  · have old : ∀ b o, hp.get? b = some o → h'.get? b = some o := fun b o e => k' b o (Nat.ne_of_lt (Nat.lt_succ_of_lt (Heap.lt_size e))) (k b o e)
    have z : hp.objs.size + 1 + 1 ≤ dx := by
      first
        | (simpa only [Heap.size_push] using dn)
        | exact dn
        | (have q := dn; rw [Heap.size_push, Heap.size_push] at q; exact q)
    exact ⟨rfl, hq h' tk' (hp.objs.size + 1) dx ⟨old, Nat.le_succ _, ⟨_, _, hx, rfl, rfl, rfl, rfl⟩, Nat.le_trans (Nat.le_trans (Nat.le_succ _) (Nat.le_succ _)) z, dne, hns⟩⟩
end
end RhX
end PySem
namespace Rh
open PySem L2 PySem.Spec PyProof.Rows
theorem relO_part {v : V} {v' : Value} (r : RelV v v') (f : Str) : RelO (List.lookup f [(("part" : Str), v)]) (if f = "part" then some v' else none) := by
  by_cases hw : f = "part"
  · subst hw
    rw [if_pos rfl]
    have q : List.lookup ("part" : Str) [(("part" : Str), v)] = some v := by simp [List.lookup]
    rw [q]
    exact r
  · rw [if_neg hw]
    have qw : (f == ("part" : Str)) = false := by simpa using hw
    have q2 : List.lookup f [(("part" : Str), v)] = none := by simp [List.lookup, qw]
    rw [q2]
    trivial
section
variable {X : Cx} {C fI : Addr} {cn : Str}
/-- BadX(e) -/
def tMkErr (C : Addr) (ta : TA) : L2.St → Hp → XK → Prop := fun σ H Q => ta σ H fun vs H1 => ∃ v, vs = [v] ∧ ∀ d, H1 d = none → Q (.ref C) (some d) (upd H1 d (.xd [(("part" : Str), v)]))
theorem pmk_err {a : Expr} {ta : TA} {p pos : Pos} {k : Nat} (T : PySem.RhX.ErrTxt X.prog X.K X.mg cn C fI) (hr : Room k X.A) (ha : PA X [a] ta) (hg : Gl X cn := by rfl)
    (he : starEach (a :: []) X.env = (false, eval a X.env) :: starEach [] X.env := by rfl) (hpl : (backTo pos (starEach [] X.env)).any (·.1) = false := by rfl) (hdb : (cn == ("__debug__" : Str)) = false := by decide) :
    PMk X (.Call (.Name cn p) [a] [] pos) (tMkErr C ta) := by
  intro pins s σ H Q I h
  refine wpAny_Call_Name_kw (ld_glob I hg T.gC ?_ hdb)
  refine PySem.W.callWith_K (h₀ := X.base) I.ok.mod.kin T.kC (thn (ha.run pos pins s σ H _ I h) fun us s1 hh => ?_) he hpl
  obtain ⟨vs, H1, I1, r1, v, ev, q1⟩ := hh
  subst ev
  refine ⟨I1.kIn, ?_⟩
  cases r1 with
  | cons rv rn =>
    rename_i v' us'
    cases rn
    show wpAny _ _ (call (.ref C) [v']) _ _ _
    obtain ⟨hp, g, dr, tk, os⟩ := s1
    refine wpAny_call (PySem.RhX.err_made T I1.mod I1.bk (by have := hr.dp; omega) fun h' tk' e d M => ?_)
    show MkP X pins σ Q (.ref e) ⟨h', g, dr, tk', os⟩
    obtain ⟨oe, fv, hoe, hc, hd, hdat, h1⟩ := M.obj
    have hns := M.ns
    obtain ⟨G', g1, g2⟩ := restrict h' fun b => decide (b ≠ e)
    have gk : ∀ b, b ≠ e → G'.get? b = h'.get? b := fun b hb => g1 b (decide_eq_true hb)
    have ge : G'.get? e = none := g2 e (by simp)
    have old : ∀ b o, hp.get? b = some o → G'.get? b = some o := fun b o q => (gk b (Nat.ne_of_lt (Nat.lt_of_lt_of_le (Heap.lt_size q) M.new))).trans (M.keep b o q)
    have ob : ObjOk X.prog X.w (upd H1 d (.xd [(("part" : Str), v)])) G' d (.xd [(("part" : Str), v)]) :=
      ⟨_, hns.at (fun o q => (gk d M.dne).trans q), fun f => relO_part rv f⟩
    have J : Inv X pins σ (upd H1 d (.xd [(("part" : Str), v)])) ⟨G', g, dr, tk', os⟩ := I1.laid (t' := tk') old M.dbig ob
    refine ⟨e, oe, fv, ⟨G', g, dr, tk', os⟩, _, .ref C, some d, rfl, J, fun b o q => ?_, ge, hoe, ⟨hc, hd⟩, hdat, h1, ?_, rfl, I1.bare, raises_own T.exC T.tyC, q1 d (I1.hok.fresh M.dbig)⟩
    · by_cases hb : b = e
      · have q' : G'.get? b = some o := q
        rw [hb, ge] at q'; cases q'
      · exact (gk b hb).symm.trans q
    · rw [upd_ne (Ne.symm M.dne)]
      exact I1.hok.fresh M.new
/-- raise BadX(e) -/
theorem s_raise {T : Tx} {W : XK} {fa : XF} {c : Nat} {a : Expr} {p pos pos2 : Pos} {k : Nat} (hc : X.calm = true) (E : PySem.RhX.ErrTxt X.prog X.K X.mg cn (T.ea c) fI) (hf : T.ef c = "part") (hr : Room k X.A) (tk : Takes X (fun cls d _ H => W cls d H)) (ha : PE X a (tX X.K T W fa)) (hg : Gl X cn := by rfl)
    (he : starEach (a :: []) X.env = (false, eval a X.env) :: starEach [] X.env := by rfl) (hpl : (backTo pos (starEach [] X.env)).any (·.1) = false := by rfl) (hdb : (cn == ("__debug__" : Str)) = false := by decide) :
    PS X (.Raise (some (.Call (.Name cn p) [a] [] pos)) none pos2) (tS X.K T W (srais c fa)) :=
  imS (ps_raise hc tk (pmk_err E hr (pa_cons ha pa_nil he) hg he hpl hdb)) fun D σ H ⟨p, F0, H0, F, env, w, iv, h⟩ => by
    refine ⟨p, F, env, w, iv.iv, PostS.bind iv h fun x w1 v F1 H1 _ g1 pn1 rx iv1 h1 => ?_⟩
    refine ⟨v, rfl, fun d hd => ?_⟩
    have g2 : Grow p F1 H1 F1 (upd H1 d (.xd [(("part" : Str), v)])) := Grow.lay g1.fh hd
    have iv2 := iv1.step g2 (pn1.lay hd)
    exact h1 d v F1 _ iv2.gr iv2.iv.pen (by rw [upd_same, hf]) rx
end
end Rh
set_option Elab.async false
set_option linter.all false
set_option maxRecDepth 100000
set_option maxHeartbeats 4000000
/-! Rh: a caught error that is kept behind its suite; isinstance of it, its field. -/
namespace PySem.W
open PySem PySem.Spec PySem.Calls PyProof.Rows
section
variable {prog : Program} {w : World} {A : Around} {E : Value → Shared → Prop} {s : Shared} {K : Frag} {x D : Addr} {ox : Obj} {od : Option Obj}
theorem rh_findData {C : Addr} {name : Str} {a g : Value} (hc : (clsIn K C).isSome = true) (ha : findIn K (.ref C) name = some (some a)) (hg : specialIn K a "__get__" = some (some g)) (ht : takesIn K a = some true) : findObj K C od name = some (.bind g a) := by
  obtain ⟨cd, hc⟩ := Option.isSome_iff_exists.mp hc
  unfold findObj
  rw [hc, Option.bind_some, ha, Option.bind_some]
  simp [hg, ht]
theorem rh_classE {Q : Option Value → Shared → Prop} (hga : findIn K (.ref D) "__getattribute__" = some (some (.builtin "BaseException.__getattribute__"))) (hgt : findIn K (.ref D) "__getattr__" = some none) (hsub : subIn K (.ref D) (.type "BaseException") = some true)
    (hdct : hasDictIn K D = true) (ha : findIn K (.ref D) "__class__" = some (some (.builtin "object.__class__")))
    (hn : specialIn K (.builtin "object.__class__") "__get__" = some (some (.builtin "getset_descriptor.__get__"))) (htk : takesIn K (.builtin "object.__class__") = some true) (hm : mroIn K D (.type "object") = some true)
    (X : K.In s.heap) (I : InstAt s.heap x ox D od) (h : Q (some (.ref D)) { s with toks := s.toks + 1 }) : wpAny (model prog w) A (getAttr? (.ref x) "__class__") Q E s := by
  have hf : findObj K D od "__class__" = some (.bind (.builtin "getset_descriptor.__get__") (.builtin "object.__class__")) := rh_findData (by obtain ⟨cd, hc, _⟩ := any_some hdct; rw [hc]; rfl) ha hn htk
  obtain ⟨hp, g, d, t, os⟩ := s
  have L0 := I.type (M := model prog w)
  have L1 := looks_findIn (M := model prog w) X hga
  have L2 := looks_findIn (M := model prog w) X hgt
  have L3 := looks_find (M := model prog w) X I hf
  have sub : Looks (model prog w) hp (isInstance (.ref x) (.type "BaseException")) true := L0.andThen (looks_subIn X hsub)
  have hx0 : (false && onTheHeap (Value.builtin "BaseException.__getattribute__")) = false := rfl
  have hx2 : (Value.builtin "BaseException.__getattribute__" == Value.builtin "object.__getattribute__") = false := by decide +kernel
  have hx1 : (onTheHeap (Value.ref D) && Value.builtin "BaseException.__getattribute__" == Value.builtin "object.__getattribute__") = false := by rw [hx2]; rfl
  unfold getAttr? getAttrBy? getAttrBy
  refine wpAny_bind (wpAny_mkText (wpAny_bind (wpAny_attempt (wpAny_holding (wpAny_bind (L0.at (wpAny_bind (L1.at ?_))))))))
  show wpAny _ _ (if (onTheHeap (Value.ref D) && Value.builtin "BaseException.__getattribute__" == Value.builtin "object.__getattribute__") = true then _ else _) _ _ _
  rw [hx1, if_neg Bool.false_ne_true]
  unfold getAttrByItsOwn hookBefore
  refine wpAny_bind ?_
  rw [if_pos (show onTheHeap (Value.ref D) = true from rfl)]
  refine L2.at ?_
  refine wpAny_bind (wpAny_attempt (wpAny_holding ?_))
  unfold callGetattribute
  rw [hx0, if_neg Bool.false_ne_true]
  unfold boundAndCalled
  rw [PySem.F.excAttr_ValueError.ga.bind (.ref x)]
  refine wpAny_bind (wpAny_pure ?_)
  show wpAny _ _ (call (.builtin "BaseException.__getattribute__") [.ref x, .str "__class__" t]) _ _ _
  refine wpAny_call (codeAny_call_builtin PySem.F.excAttr_ValueError.ga.plain PySem.F.entry_bexc_ga ?_)
  refine @check_slot (model prog w) _ _ ⟨hp, g, d, t + 1, os⟩ "BaseException.__getattribute__" "BaseException" "__getattribute__" (.ref x) [.str "__class__" t] [] _ (by decide +kernel) (by decide +kernel) sub (PySem.F.args_bexc_ga (.ref x) (.str "__class__" t)) ?_
  unfold Builtin.«object.__getattribute__»
  refine wpAny_bind (wpAny_of_eq (a := ((Value.ref x : Value), [Value.str "__class__" t])) (by first | rfl | (simp only [slotArgs]; rfl)) ?_)
  refine wpAny_bind (wpAny_pure (wpAny_bind (L0.at (wpAny_bind (L3.at ?_)))))
  show wpAny _ _ (holding [Value.builtin "object.__class__"] (call (.builtin "getset_descriptor.__get__") [.builtin "object.__class__", .ref x, .ref D]) >>= ret) _ _ _
  refine wpAny_bind (wpAny_holding (wpAny_call (class_get (s := ⟨hp, g, d, t + 1, os⟩) (ox := ox) (od := od) X I hm ?_)))
  refine wpAny_pure ?_
  show wpAny _ _ (handedOut (.ref D)) _ _ _
  rw [handedOut_of (v := .ref D) rfl]
  first
    | exact wpAny_pure (wpAny_pure h)
    | exact wpAny_pure h
    | exact wpAny_pure (wpAny_bind (wpAny_pure (wpAny_pure h)))
theorem rh_kitx_exc (hga : findIn K (.ref D) "__getattribute__" = some (some (.builtin "BaseException.__getattribute__"))) (hgt : findIn K (.ref D) "__getattr__" = some none) (hsub : subIn K (.ref D) (.type "BaseException") = some true) (hdct : hasDictIn K D = true) (ha : findIn K (.ref D) "__class__" = some (some (.builtin "object.__class__")))
    (hn : specialIn K (.builtin "object.__class__") "__get__" = some (some (.builtin "getset_descriptor.__get__"))) (htk : takesIn K (.builtin "object.__class__") = some true) (hm : mroIn K D (.type "object") = some true) :
    KitX K (.ref x) (.ref D) (fun h => ∃ od, InstAt h x ox D od) where
  ty := fun _ _ _ ⟨_, I⟩ => I.type
  it := fun _ _ X _ => by
    obtain ⟨cdD, hcD, _⟩ := any_some hdct
    unfold clsIn at hcD
    split at hcD
    · rename_i c' d' cd' sl' ho
      intro A' Q' E' s' k q
      unfold isType loadHead
      exact wpAny_bind (wpAny_loadPart (k _ _ (X _ _ ho)) (wpAny_pure q))
    · cases hcD
  ne := fun h tp dd its n sl X htp => by
    obtain ⟨cdD, hcD, _⟩ := any_some hdct
    refine Bool.eq_false_iff.mpr fun q => ?_
    have e : D = tp := Value.ref.inj (beq_iff_eq.mp q)
    subst e
    unfold clsIn at hcD
    split at hcD
    · rename_i c' d' cd' sl' ho
      have z := (X _ _ ho).symm.trans htp
      cases z
    · cases hcD
  ca := fun X ⟨_, I⟩ k => rh_classE hga hgt hsub hdct ha hn htk hm X I k
end
end PySem.W

namespace Rh
open PySem L2 PySem.Spec PyProof.Rows
/-- a caught error at a -/
def ErrO (cls : Value) (d : Option Addr) (a : Addr) : HO := .ext fun h => ∃ (oe : Obj) (vs : Array Value), h.get? a = some oe ∧ Zc cls d oe ∧ oe.data = .fields vs
theorem errO_ok {P : Program} {w : World} {H : Hp} {h : Heap} {a : Addr} {cls : Value} {d : Option Addr} {oe : Obj} {vs : Array Value} (e : h.get? a = some oe) (z : Zc cls d oe) (dt : oe.data = .fields vs) : ObjOk P w H h a (ErrO cls d a) :=
  ⟨⟨oe, vs, e, z, dt⟩, ⟨oe, e⟩, fun _ _ ⟨o, v, q, r⟩ k => ⟨o, v, k o q, r⟩⟩
theorem nt_err (cls : Value) (d : Option Addr) (a : Addr) : NT (ErrO cls d a) := fun ps z => by unfold ErrO at z; cases z
section
variable {X : Cx} {pins : List (Addr × Obj)} {σ : L2.St} {H : Hp} {s : Shared}
/-- an object that was pinned is tracked from now on -/
theorem inv_track {a : Addr} {oe : Obj} {o : HO} {vs : Array Value} (I : Inv X ((a, oe) :: pins) σ H s) (hd : oe.data = .fields vs) (n0 : X.s_0.heap.get? a = none) (np : ∀ p ∈ X.pn ++ pins, p.1 ≠ a) (new : ObjOk X.prog X.w (upd H a o) s.heap a o) : Inv X pins σ (upd H a o) s := by
  obtain ⟨ga, na, nL, nF, nc⟩ := I.pin (a, oe) (List.mem_append.mpr (.inr List.mem_cons_self))
  have ga : s.heap.get? a = some oe := ga
  have na : H a = none := na
  have nL : a ≠ X.env.locals := nL
  have ne0 : ∀ b u, X.s_0.heap.get? b = some u → b ≠ a := fun b u e z => by rw [z, n0] at e; cases e
  refine ⟨I.ok, I.os, I.bare, ⟨I.base.keep, I.base.slot, fun b u e n hq => ?_, I.base.there, fun b xs e => ?_, fun b u xs e => ?_, fun b ps e => ?_⟩, I.loc, I.cell, ?_, fun x c e => ?_, fun p hp => ?_, I.hok.laidN (fun _ _ e => e) na new, I.len⟩
  · rw [upd_ne (ne0 b u e)]; exact I.base.free b u e n hq
  · have q := I.base.tups b xs e
    rw [upd_ne (ne_of_none q na)]; exact q
  · have q := I.base.frzs b u xs e
    rw [upd_ne (ne_of_none q na)]; exact q
  · obtain ⟨m, q⟩ := I.base.tbls b ps e
    exact ⟨m, by rw [upd_ne (ne_of_none q na)]; exact q⟩
  · rw [upd_ne (Ne.symm nL)]; exact I.free
  · have hc : c ≠ a := fun z => by
      obtain ⟨v, o', ho, hdt⟩ := I.cell x c e
      rw [z, ga] at ho; cases ho
      rw [hd] at hdt; cases hdt
    rw [upd_ne hc]; exact I.freeC x c e
  · have hp' : p ∈ X.pn ++ (a, oe) :: pins := by
      rcases List.mem_append.mp hp with h | h
      · exact List.mem_append_left _ h
      · exact List.mem_append_right _ (List.mem_cons_of_mem _ h)
    obtain ⟨e, n, ne, nf, d⟩ := I.pin p hp'
    exact ⟨e, by rw [upd_ne (np p hp)]; exact n, ne, nf, d⟩
end
/-- what 'except c as e: y = e' wishes of an exception of the body -/
def wKeep (K : PySem.W.Frag) (c : Value) (ie ic nN : Nat) (Wout : WX) (D : Ends) : WX := fun cls d σ H =>
  ∃ b, PySem.W.exmOne K cls c = some b ∧ (b = true → σ.length = nN → ∀ a, H a = none → D.nx (((σ.set ie (some (.ref a))).set ic (some (.ref a))).set ie none) (upd H a (ErrO cls d a))) ∧ (b = false → Wout cls d σ H)
section
variable {X : Cx} {x n y : Str} {c : Value} {ie ic : Nat} {body : List Stmt} {np pos pos' spos py pn2 : Pos} {tb : WX → TS} {Wout : WX}
theorem ps_try_keep (hx : X.ex = []) (hs : X.stack = X.env :: X.outer) (hf : X.env.frame = some X.env.locals) (hN : X.N.Nodup) (hi : X.N[ie]? = some n) (hln : X.env.kindOf n = some .local) (hc : Names X x c) (tk : Takes X Wout)
    (hb : ∀ (W : WX) (pn : List (Addr × Obj)) (xe : Value → Shared → Prop), Takes (X.tr pn xe) W → PassesOwn (model X.prog X.w) X.A X.env xe → PSs (X.tr pn xe) body (tb W))
    (hsu : ∀ (a : Addr) (pn : List (Addr × Obj)), PS (X.suite a pn) (.Assign [.Name y py] (.Name n pn2) spos) (tAsg (tVar ie) (gName ic))) (hie : ie < X.N.length) (hne : ie ≠ ic) :
    PS X (.Try body [.ExceptHandler (some (.Name x np)) (some n) [.Assign [.Name y py] (.Name n pn2) spos] pos'] [] [] pos) (fun D σ H => tb (wKeep X.K c ie ic X.N.length Wout D) D σ H) := by
  refine ⟨fun pins s σ H D I h => ?_⟩
  have ok := I.ok
  have hfr : X.A.frames = some (X.env :: X.outer) := by rw [ok.frames, hs]
  have hloc : Loc X.env.scope n := .inl hln
  refine wpAny_Try_except ?_
  refine wpAny_mono ((hb (wKeep X.K c ie ic X.N.length Wout D) (X.pn ++ pins) (fun e s₁ => wpAny (model X.prog X.w) X.A (noteFrame e X.env) (fun _ s₂ => wpAny (model X.prog X.w) X.A (setFlight e none) (fun _ s₃ =>
    wpAny (model X.prog X.w) X.A (handleBy e X.env [.ExceptHandler (some (.Name x np)) (some n) [.Assign [.Name y py] (.Name n pn2) spos] pos']) (SP X pins D) X.xe s₃) X.xe s₂) X.xe s₁) (fun u s' xx => ?_) PassesOwn.looking).run [] s σ H D (I.toTry _) h) (fun f s1 hsp => ?_) (fun e s1 he => he)
  · obtain ⟨a, B, sI, pins', σ', H', cls, d, rfl, J', nb, up, sky, na, os, ag, b, hb1, hyes, hno⟩ := xx
    have J : Inv X pins σ' H' sI := J'.ofTry ok
    have sky' : Sky B (X.env :: X.outer) a (Zc cls d) X.env.locals s'.heap := by rw [← hs]; exact sky
    show wpAny (model X.prog X.w) X.A (noteFrame (.ref a) X.env) _ _ _
    refine Sky.land Zc.steady hfr hf sky' fun h3 fl3 up3 => ?_
    have J3 : Inv X pins σ' H' { s' with heap := h3 } := J.landed nb fl3.1 (up.trans up3) os ag
    obtain ⟨oe3, vs3, he3, hz3, hd3⟩ := fl3.there
    have notFr : ∀ {h : Heap} {o : Obj} {vs : Array Value}, h.FunFrames B (X.env :: X.outer) → h.get? a = some o → o.data = .fields vs → a ∉ frs (X.env :: X.outer) := fun {h o vs} ff e dd hm => by
      obtain ⟨_, o', e', hnf⟩ := ff.mem hm
      rw [e] at e'; cases e'
      exact hnf _ dd
    have nfr := notFr fl3.2.2.1 he3 hd3
    have nL : a ≠ X.env.locals := fun z => nfr (List.mem_filterMap.mpr ⟨X.env, List.mem_cons_self, by rw [hf, z]⟩)
    have nF : a ∉ X.fs := fun hm => by
      obtain ⟨e, he, q⟩ := List.mem_filterMap.mp hm
      exact nfr (List.mem_filterMap.mpr ⟨e, List.mem_cons_of_mem _ he, q⟩)
    have Ba : B.get? a = none := fl3.2.1
    have n0 : X.s_0.heap.get? a = none := by
      cases q : X.s_0.heap.get? a with
      | none => rfl
      | some o =>
        obtain ⟨o', e'⟩ := J.base.there a o q (by rw [hx]; exact fun z => nomatch z)
        have := nb a o' e' (by rw [hs]; exact nfr)
        rw [Ba] at this; cases this
    have npin : ∀ p ∈ X.pn ++ pins, p.1 ≠ a := fun p hp z => by
      obtain ⟨e, _, ne, nf, _⟩ := J.pin p hp
      have := nb p.1 _ e (fun hm => by
        rcases List.mem_cons.mp (J.stkSub _ hm) with q | q
        · exact ne q
        · exact nf q)
      rw [z, Ba] at this; cases this
    have S3 := J3.suite he3 hd3 na nL nF
    refine wpAny_handleBy_cons (codeAny_handlers_test ?_) (by intro q; cases q)
    have LT : PySem.W.Looks (model X.prog X.w) h3 (typeOf (.ref a)) cls := fun A Q E s k q => wpAny_typeOf_ref (k _ _ he3) (by rw [hz3.1]; exact q)
    have LM := PySem.W.exm_one (M := model X.prog X.w) (J3.kIn) LT hb1
    have test : ∀ {Q : Value → Shared → Prop} {E : Value → Shared → Prop}, Q c { s' with heap := h3 } → wpAny (model X.prog X.w) (X.A.mark (some (.ref a))) (eval (.Name x np) X.env) Q E { s' with heap := h3 } := fun {Q E} q => by
      obtain ⟨hg, hdbg, hm | ⟨hm, hv, hnn⟩⟩ := hc
      · exact ld_glob (X := X.suite a ((a, oe3) :: (X.pn ++ pins))) S3 hg hm q hdbg
      · exact ld_blt (X := X.suite a ((a, oe3) :: (X.pn ++ pins))) S3 hg hm hv q hnn hdbg
    refine test (LM.here ?_)
    cases b with
    | true =>
      refine codeAny_handlers_suite_as ?_
      refine HandSPX.lands_againZ fl3 fun h4 fl4 up4 => ?_
      have J4 : Inv X pins σ' H' { s' with heap := h4 } := J.landed nb fl4.1 ((up.trans up3).trans up4) os ag
      obtain ⟨oe4, vs4, he4, hz4, hd4⟩ := fl4.there
      have S4 := J4.suite he4 hd4 na nL nF
      refine store_ok (X := X.suite a ((a, oe4) :: (X.pn ++ pins))) (v := .ref a) S4 hN hi hloc rfl (fun s5 S5 => ?_) (.inr hln)
      refine wpAny_mono ((pss_one (hsu a ((a, oe4) :: (X.pn ++ pins)))).run [] s5 _ H' ⟨fun σ6 H6 => σ6 = (σ'.set ie (some (.ref a))).set ic (some (.ref a)) ∧ H6 = H', fun _ _ => False, fun _ _ => False, fun _ _ => False⟩ S5 ⟨.ref a, by rw [List.getElem?_set_self (by rw [J.len]; exact hie)], rfl, rfl⟩) (fun f s6 hsp => ?_) (fun _ _ z => False.elim z)
      cases f with
      | next =>
        obtain ⟨σ6, H6, S6, rfl, rfl⟩ := hsp
        have S7 : Inv X ((a, oe4) :: pins) ((σ'.set ie (some (.ref a))).set ic (some (.ref a))) H6 s6 :=
          ⟨ok, S6.os, S6.bare, S6.base, S6.loc, S6.cell, S6.free, S6.freeC, fun p hp => S6.pin p (by
            rw [List.append_nil]
            show p ∈ (a, oe4) :: (X.pn ++ pins)
            rcases List.mem_append.mp hp with h | h
            · exact List.mem_cons_of_mem _ (List.mem_append_left _ h)
            · rcases List.mem_cons.mp h with h | h
              · rw [h]; exact List.mem_cons_self
              · exact List.mem_cons_of_mem _ (List.mem_append_right _ h)), S6.hok, S6.len⟩
        exact gone_ok S7 hN hi hln fun s7 J7 => by
          have ga := (J7.pin (a, oe4) (List.mem_append.mpr (.inr List.mem_cons_self))).1
          exact ⟨_, _, inv_track J7 hd4 n0 npin (errO_ok ga hz4 hd4), hyes rfl J.len a na⟩
      | brk => obtain ⟨_, _, _, z⟩ := hsp; exact z.elim
      | cont => obtain ⟨_, _, _, z⟩ := hsp; exact z.elim
      | ret u => obtain ⟨_, _, _, _, _, z⟩ := hsp; exact z.elim
    | false =>
      show wpAny _ X.A (handleBy (.ref a) X.env []) _ _ _
      refine wpAny_handleBy_nil ?_
      obtain ⟨k1, k2, k3, oe, vs, T, oT, ts', he, hz, hd, h1, hr⟩ := id fl3
      unfold PySem.passOn
      refine wpAny_bind (wpAny_field he hd h1 ?_)
      rw [if_neg (show ¬ ((Value.ref T == Value.none) = true) from by simp)]
      have fin : wpAny (model X.prog X.w) X.A (setFlight (.ref a) X.env.frame) (fun _ s4 => wpAny (model X.prog X.w) X.A (throw (.ref a) : Sem Flow) (SP X pins D) X.xe s4) X.xe { s' with heap := h3 } := by
        rw [hf]
        refine HandSPX.setFlight_upZ fl3 fun h4 hh4 up4 => wpAny_throw (tk _ _ ?_)
        exact ⟨a, B, sI, pins, σ', H', cls, d, rfl, J, nb, (up.trans up3).trans up4, .inr (.inr (by rw [hs]; exact hh4)), na, os, ag, hno rfl⟩
      first
        | exact wpAny_bind (wpAny_pure (wpAny_bind fin))
        | exact wpAny_bind fin
  · cases f with
    | next =>
      obtain ⟨σ', H', J', q⟩ := hsp
      exact wpAny_execs_nil ⟨σ', H', J'.ofTry ok, q⟩
    | brk =>
      obtain ⟨σ', H', J', q⟩ := hsp
      exact ⟨σ', H', J'.ofTry ok, q⟩
    | cont =>
      obtain ⟨σ', H', J', q⟩ := hsp
      exact ⟨σ', H', J'.ofTry ok, q⟩
    | ret u =>
      obtain ⟨v, σ', H', J', r, q⟩ := hsp
      exact ⟨v, σ', H', J'.ofTry ok, r, q⟩
end
/-! ### the kept error looked at -/
/-- isinstance(e, c), e a kept error -/
def rIsK (K : PySem.W.Frag) : List V → Hp → VK → Prop := fun xs H Q => ∃ (a D C : Addr) (d : Option Addr) (b : Bool), xs = [.ref a, .ref C] ∧ H a = some (ErrO (.ref D) d a) ∧ ExcC K D ∧ (∀ dd, d = some dd → ∃ fs, H dd = some (.xd fs)) ∧ PySem.W.kitOne K (.ref D) (.ref C) = some b ∧ Q (.bl b) H
theorem inst_of {X : Cx} {pins : List (Addr × Obj)} {σ : L2.St} {H : Hp} {s : Shared} {a D : Addr} {d : Option Addr} (I : Inv X pins σ H s) (h : H a = some (ErrO (.ref D) d a)) (hd : ∀ dd, d = some dd → ∃ fs, H dd = some (.xd fs)) : ∃ oe od, PySem.W.InstAt s.heap a oe D od := by
  obtain ⟨⟨oe, vs, ho, hz, hv⟩, _, _⟩ := I.hok a _ h
  obtain ⟨oc, odd, oda, osl⟩ := oe
  obtain ⟨h1, h2⟩ := hz
  dsimp only at h1 h2 hv
  subst h1 h2 hv
  cases odd with
  | none => exact ⟨_, none, ho, rfl, rfl, trivial⟩
  | some dd =>
    obtain ⟨fs, hx⟩ := hd dd rfl
    obtain ⟨mA, hns, hr⟩ := (show ObjOk X.prog X.w H s.heap dd (.xd fs) from I.hok dd _ hx)
    obtain ⟨od, ho2, hl⟩ := lookIn_ns hns
    exact ⟨_, some od, ho, rfl, rfl, ho2⟩
theorem call_isK {X : Cx} : CallR X (.builtin "isinstance") (rIsK X.K) := by
  intro pins s σ H xs us Q I r h
  obtain ⟨a, D, C, d, b, rfl, ha, hC, hd, e, q⟩ := h
  obtain ⟨u1, u2, rfl, r1, r2⟩ := vals2 r
  cases (show u1 = Value.ref a from r1)
  cases (show u2 = Value.ref C from r2)
  obtain ⟨oe, od, J⟩ := inst_of I ha hd
  exact PySem.W.kia_one (PySem.W.rh_kitx_exc hC.hg hC.hk hC.hs hC.hd hC.ha hC.hn hC.ht hC.hm) I.kIn ⟨od, J⟩ e (fun z => nomatch z) fun tk => ⟨.bl b, H, I.tok tk, rfl, q⟩
/-- e.part, e a kept error -/
def tPart (K : PySem.W.Frag) (te : TE) : TE := fun σ H Q => te σ H fun x H1 => ∃ (a D dd : Addr) (v : V), x = .ref a ∧ H1 a = some (ErrO (.ref D) (some dd) a) ∧ H1 dd = some (.xd [(("part" : Str), v)]) ∧ XfC K D ∧ PySem.W.findIn K (.ref D) "part" = some none ∧ Q v H1
theorem pe_part {X : Cx} {e : Expr} {te : TE} {pos : Pos} (he : PE X e te) (hb : attributeBase e "part" X.env (eval e X.env) = eval e X.env := by rfl) : PE X (.Attribute e "part" pos) (tPart X.K te) := by
  refine ⟨fun pins s σ H Q I h => ?_⟩
  refine attr_of hb (thn (he.run pins s σ H _ I h) fun u s1 hh => ?_)
  obtain ⟨x, H1, I1, rx, a, D, dd, v, ex, ha, ea, T, hno, q⟩ := hh
  subst ex
  obtain rfl : u = Value.ref a := rx
  obtain ⟨⟨oe, vs, ho, hz, hd⟩, _, _⟩ := I1.hok a _ ha
  have hx : ObjOk X.prog X.w H1 s1.heap dd (.xd [(("part" : Str), v)]) := I1.hok dd _ ea
  obtain ⟨mA, hns, hr⟩ := hx
  obtain ⟨od, ho2, hl⟩ := lookIn_ns hns
  have l : List.lookup ("part" : Str) [(("part" : Str), v)] = some v := by simp [List.lookup]
  obtain ⟨u, hu, ru⟩ := RelO.some_of (v := v) (o := mA "part") (by rw [← l]; exact hr "part")
  have J : PySem.W.InstAt s1.heap a oe D (some od) := ⟨ho, hz.1, by unfold PySem.W.notCls; rw [hd] <;> rfl, by rw [hz.2]; exact ho2⟩
  exact HandSPX.exc_get I1.kIn J T.ga T.gg T.exC (PySem.W.findObj_own T.hdC hno rfl (by rw [hl, hu])) (handed_of ru) ⟨v, H1, I1.tok _, ru, q⟩
end Rh
set_option Elab.async false
set_option linter.all false
set_option maxRecDepth 100000
set_option maxHeartbeats 2000000
/-! Rh: a lambda, perhaps with one parameter that has a default, handed to a def that calls it. -/
namespace RhL
open PySem PySem.Spec PyProof.Rows L2 LamX
/-- the default's tuple -/
def DOk (dV : Value) (h : Heap) (H : Hp) (fs : List Addr) : Prop := dV = .none ∨ ∃ (T : Addr) (tk : Tok), dV = .ref T ∧ h.get? T = some (PySem.W.kdv_tup [.int 0 tk]) ∧ H T = none ∧ T ∉ fs
/-- all but the table stays -/
def ExtL (P : Addr) (H H1 : Hp) : Prop := (∀ b o, b ≠ P → H b = some o → H1 b = some o) ∧ ∃ ps, H1 P = some (.tbl ps)
section
variable {X : Cx} {pins : List (Addr × Obj)} {σ : L2.St} {H : Hp} {s : Shared}
theorem lam_tail {T : List (Addr × Str)} {c P : Addr} {params : Arguments} {body : Expr} {scope : Scope} {pos : Pos} {E : Value → Shared → Prop} {Q : Value → Shared → Prop} {dV : Value} (I : Inv X pins σ H s) (TB : TabB X.base X.mg c P) (hcode : X.env.code = .ref c)
    (hm : (P, X.env.qual ++ "<lambda>") ∈ T) (hu : ∀ p ∈ T, p.1 = P → p.2 = X.env.qual ++ "<lambda>") (hT : Tabs T H) (hfree : ∀ y ∈ scope.names, y.2 = .free → ∃ c, X.env.cells.lookup y.1 = some c) (hD : DOk dV s.heap H (frs X.stack))
    (h : ∀ (f c' : Addr) (pm doc ctv : Value) (H1 : Hp) (s' : Shared), Inv X pins σ H1 s' → ExtL P H H1 → Tabs T H1 → DOk dV s'.heap H1 (frs X.stack) →
      s'.heap.get? f = some (PySem.W.kdv_obj "<lambda>" (X.env.qual ++ "<lambda>") params (.expr body) scope (cloFrom X.env.cells scope.names []) dV doc pm c' ctv) → H1 f = none → f ∉ frs X.stack → H1 c' = some (CodeO c' (X.env.qual ++ "<lambda>")) → Q (.ref f) s') :
    wpAny (model X.prog X.w) X.A (makeTail "<lambda>" (X.env.qual ++ "<lambda>") params (.expr body) scope X.env dV .none none pos pos.line) Q E s := by
  obtain ⟨ps, hP, ht, ha⟩ := hT _ hm
  have bP : s.heap.BuiltinsAt X.mg P := TB.bm.keeps I.bk
  have hP' : s.heap.get? P = some { cls := .none, data := .fields ps } := I.hok P _ hP
  have nofr : ∀ f, s.heap.objs.size ≤ f → f ∉ frs X.stack := fun f hf z => by
    rcases List.mem_cons.mp (I.stkSub _ z) with e | e
    · have h1 := I.lt
      rw [← e] at h1
      exact Nat.lt_irrefl _ (Nat.lt_of_lt_of_le h1 hf)
    · exact I.nofs hf e
  cases hc : codeAmong pos ps.toList with
  | none =>
    refine PySem.W.kdv_makeTail (mg := X.mg) (c := c) (P := P) (ps := ps) (closure_ok hfree) I.ok.glob (I.mod.glob.keeps I.bk) hcode (TB.code.keeps I.bk) hP' ht hc TB.gP bP fun c' ctv doc h' tk hx hge hlt hrec htb => ?_
    obtain ⟨c2, oc, vs, t, e2, hoc, hd, hv⟩ := hrec
    cases e2
    have hsz : s.heap.objs.size ≤ h'.objs.size := Nat.le_trans hge (Nat.le_of_lt hlt)
    have nC : H c' = none := I.hok.fresh hge
    have I1 := inv_table (t' := tk) (more := #[rawInt pos.line, rawInt pos.col, .ref c']) (h' := h'.push (PySem.W.kdv_obj "<lambda>" (X.env.qual ++ "<lambda>") params (.expr body) scope (cloFrom X.env.cells scope.names []) dV doc ((X.mg "__name__").getD .none) c' ctv)) I hP
      (fun b o hb e => Heap.get?_push_of_some _ (hx b o hb e)) (Heap.get?_push_of_some _ htb) hge ⟨oc, vs, t, Heap.get?_push_of_some _ hoc, hd, hv⟩
    have hE0 : ∀ b o, b ≠ P → H b = some o → upd (upd H P (.tbl (ps ++ #[rawInt pos.line, rawInt pos.col, .ref c']))) c' (CodeO c' (X.env.qual ++ "<lambda>")) b = some o := fun b o hb e => by
      rw [upd_ne (ne_of_none e nC), upd_ne hb]
      exact e
    have hE : ExtL P H (upd (upd H P (.tbl (ps ++ #[rawInt pos.line, rawInt pos.col, .ref c']))) c' (CodeO c' (X.env.qual ++ "<lambda>"))) := ⟨hE0, _, by rw [upd_ne (ne_of_none hP nC), upd_same]⟩
    have eL : (ps ++ #[rawInt pos.line, rawInt pos.col, .ref c']).toList = ps.toList ++ [rawInt pos.line, rawInt pos.col, .ref c'] := by simp
    have hCne : ∀ {c0 : Addr}, H c0 = some (CodeO c0 (X.env.qual ++ "<lambda>")) → c0 ≠ P := fun {c0} e z => by
      rw [z, hP] at e
      exact codeO_ne _ (Option.some.inj e).symm
    refine h h'.objs.size c' ((X.mg "__name__").getD .none) doc ctv _ _ I1 hE (fun p hp => ?_) ?_ (Heap.get?_push_size _ rfl) ?_ (nofr _ hsz) upd_same
    · by_cases hb : p.1 = P
      · rw [hu p hp hb, hb]
        refine ⟨_, by rw [upd_ne (ne_of_none hP nC), upd_same], by rw [eL]; exact PySem.TriplesOk_snoc _ _ _ _ ht, fun p' cv hcv => ?_⟩
        rw [eL] at hcv
        rcases among_app _ ht hcv with z | z
        · obtain ⟨c0, e1, e2⟩ := ha p' cv z
          exact ⟨c0, e1, hE0 _ _ (hCne e2) e2⟩
        · exact ⟨c', z, upd_same⟩
      · obtain ⟨ps', a1, a2, a3⟩ := hT p hp
        refine ⟨ps', by rw [upd_ne (ne_of_none a1 nC), upd_ne hb]; exact a1, a2, fun p' cv hcv => ?_⟩
        obtain ⟨c0, e1, e2⟩ := a3 p' cv hcv
        refine ⟨c0, e1, hE0 _ _ (fun z => ?_) e2⟩
        rw [z, hP] at e2
        exact codeO_ne _ (Option.some.inj e2).symm
    · rcases hD with hD | ⟨T0, t0, d1, d2, d3, d4⟩
      · exact .inl hD
      · have nP : T0 ≠ P := fun z => by rw [z, hP] at d3; cases d3
        have nc : T0 ≠ c' := Nat.ne_of_lt (Nat.lt_of_lt_of_le (Heap.lt_size d2) hge)
        exact .inr ⟨T0, t0, d1, Heap.get?_push_of_some _ (hx _ _ nP d2), by rw [upd_ne nc, upd_ne nP]; exact d3, d4⟩
    · have n1 : h'.objs.size ≠ c' := Nat.ne_of_gt hlt
      have n2 : h'.objs.size ≠ P := Nat.ne_of_gt (Nat.lt_of_lt_of_le (Heap.lt_size hP') hsz)
      rw [upd_ne n1, upd_ne n2]
      exact I.hok.fresh hsz
  | some cv =>
    obtain ⟨c', e, hco⟩ := ha pos cv hc
    subst e
    refine PySem.W.kdv_makeTailHit (mg := X.mg) (c := c) (P := P) (ps := ps) (closure_ok hfree) I.ok.glob (I.mod.glob.keeps I.bk) hcode (TB.code.keeps I.bk) hP' ht hc bP fun ctv doc h' tk hx hsz => ?_
    have I1 : Inv X pins σ H { s with heap := h'.push (PySem.W.kdv_obj "<lambda>" (X.env.qual ++ "<lambda>") params (.expr body) scope (cloFrom X.env.cells scope.names []) dV doc ((X.mg "__name__").getD .none) c' ctv), toks := tk } := I.kept fun b o e => Heap.get?_push_of_some _ (hx b o e)
    refine h h'.objs.size c' ((X.mg "__name__").getD .none) doc ctv H _ I1 ⟨fun _ _ _ e => e, _, hP⟩ hT ?_ (Heap.get?_push_size _ rfl) (I.hok.fresh hsz) (nofr _ hsz) hco
    rcases hD with hD | ⟨T0, t0, d1, d2, d3, d4⟩
    · exact .inl hD
    · exact .inr ⟨T0, t0, d1, Heap.get?_push_of_some _ (hx _ _ d2), d3, d4⟩
/-- what a lambda's parameters are -/
inductive Par (params : Arguments) : Prop where
  | no (h : params.defaults = []) (hk : params.kw_defaults = []) (hk2 : params.kwonlyargs = [])
  | one {j : Nat} {p : Pos} (h : params.defaults = [.Constant (.int 0) j p]) (hk : params.kw_defaults = []) (hk2 : params.kwonlyargs = [])
theorem lam_make3 {T : List (Addr × Str)} {c P : Addr} {params : Arguments} {body : Expr} {scope : Scope} {pos : Pos} {Q : Value → Shared → Prop} (I : Inv X pins σ H s) (TB : TabB X.base X.mg c P) (hcode : X.env.code = .ref c)
    (hm : (P, X.env.qual ++ "<lambda>") ∈ T) (hu : ∀ p ∈ T, p.1 = P → p.2 = X.env.qual ++ "<lambda>") (hT : Tabs T H) (hpar : Par params) (hfree : ∀ y ∈ scope.names, y.2 = .free → ∃ c, X.env.cells.lookup y.1 = some c)
    (h : ∀ (f c' : Addr) (pm doc ctv dV : Value) (H1 : Hp) (s' : Shared), Inv X pins σ H1 s' → ExtL P H H1 → Tabs T H1 → DOk dV s'.heap H1 (frs X.stack) → (params.defaults = [] → dV = .none) → (params.defaults ≠ [] → dV ≠ .none) →
      s'.heap.get? f = some (PySem.W.kdv_obj "<lambda>" (X.env.qual ++ "<lambda>") params (.expr body) scope (cloFrom X.env.cells scope.names []) dV doc pm c' ctv) → H1 f = none → f ∉ frs X.stack → H1 c' = some (CodeO c' (X.env.qual ++ "<lambda>")) → Q (.ref f) s') :
    wpAny (model X.prog X.w) X.A (eval (.Lambda params body scope pos) X.env) Q X.xe s := by
  cases hpar with
  | no h0 hk hk2 =>
    refine PySem.W.kla_eval (by rw [defaultsOf_eq, h0, hk]; rfl) ?_
    rw [makeFunction_eq]
    simp only [List.zip_nil_right, List.filterMap_nil, List.isEmpty_nil, if_true, pure_bind]
    exact lam_tail I TB hcode hm hu hT hfree (.inl rfl) fun f c' pm doc ctv H1 s' a1 a2 a3 a4 a5 a6 a7 a8 => h f c' pm doc ctv .none H1 s' a1 a2 a3 a4 (fun _ => rfl) (fun z => absurd h0 z) a5 a6 a7 a8
  | one h0 hk hk2 =>
    rename_i j p
    refine PySem.W.kdv_lam (by rw [h0]; rfl) hk ?_
    rw [h0]
    refine PySem.W.kdv_all1 ?_
    refine thn ((pe_int (X := X) (i := 0)).run pins s σ H (fun v H1 => v = .int 0 ∧ H1 = H) I ⟨rfl, rfl⟩) fun u s1 hh => ?_
    · obtain ⟨v, H1, I1, r1, rfl, rfl⟩ := hh
      obtain ⟨tk, rfl⟩ := (show ∃ t, u = Value.int 0 t from r1)
      refine PySem.W.kdv_all0 ?_
      rw [makeFunction_eq]
      simp only [List.zip_nil_right, List.filterMap_nil, List.isEmpty_nil, List.isEmpty_cons, Bool.false_eq_true, if_false, if_true, pure_bind]
      refine wpAny_bind (wpAny_newTextTuple ?_)
      have I2 : Inv X pins σ H1 { s1 with heap := s1.heap.push { cls := .type "tuple", data := .seq ([Value.int 0 tk] : List Value).toArray } } := I1.kept (t' := s1.toks) fun b o e => Heap.get?_push_of_some _ e
      have nofr : s1.heap.objs.size ∉ frs X.stack := fun z => by
        rcases List.mem_cons.mp (I1.stkSub _ z) with e | e
        · have h1 := I1.lt
          rw [← e] at h1
          exact Nat.lt_irrefl _ h1
        · exact I1.nofs (Nat.le_refl _) e
      exact lam_tail I2 TB hcode hm hu hT hfree (.inr ⟨s1.heap.objs.size, tk, rfl, Heap.get?_push_size _ rfl, I1.hok.fresh (Nat.le_refl _), nofr⟩) fun f c' pm doc ctv H1 s' a1 a2 a3 a4 a5 a6 a7 a8 => h f c' pm doc ctv _ H1 s' a1 a2 a3 a4 (fun z => by rw [h0] at z; cases z) (fun _ z => by cases z) a5 a6 a7 a8
end
/-! ### the lambda's names -/
/-- perhaps one parameter that is none of the def's names; captured ones and globals -/
structure LamP (N : List Str) (sc scope : Scope) : Prop where
  kind : scope.kind = .function
  co : scope.isCoroutine = false
  gen : scope.isGenerator = false
  own : ∀ y ∈ scope.names, (y.2 = .local → y.1 ∉ N) ∧ y.2 ≠ .cell
  free : ∀ y ∈ scope.names, y.2 = .free → sc.names.lookup y.1 = some .cell ∨ sc.names.lookup y.1 = some .free
def lamPB (N : List Str) (sc scope : Scope) : Bool :=
  decide (scope.kind = .function) && !scope.isCoroutine && !scope.isGenerator && scope.names.all fun y => (!decide (y.2 = .local) || !(N.contains y.1)) && !decide (y.2 = .cell) && (!decide (y.2 = .free) || decide (sc.names.lookup y.1 = some .cell) || decide (sc.names.lookup y.1 = some .free))
theorem lamP_by {N : List Str} {sc scope : Scope} (h : lamPB N sc scope = true) : LamP N sc scope := by
  unfold lamPB at h
  simp only [Bool.and_eq_true, Bool.or_eq_true, Bool.not_eq_true', decide_eq_true_eq, decide_eq_false_iff_not, List.all_eq_true] at h
  obtain ⟨⟨⟨h1, h2⟩, h3⟩, h4⟩ := h
  refine ⟨h1, h2, h3, fun y hy => ⟨fun e hm => ?_, (h4 y hy).1.2⟩, fun y hy e => ?_⟩
  · rcases (h4 y hy).1.1 with z | z
    · exact z e
    · rw [List.contains_iff_mem.mpr hm] at z; cases z
  · rcases (h4 y hy).2 with (z | z) | z
    · exact absurd e z
    · exact .inl z
    · exact .inr z
theorem LamP.has {X : Cx} {scope : Scope} (L : LamP X.N X.env.scope scope) (ok : X.Ok) : ∀ y ∈ scope.names, y.2 = .free → ∃ c, X.env.cells.lookup y.1 = some c := fun y hy e => by
  rcases L.free y hy e with k | k
  · exact ok.has _ (.inl k)
  · exact ok.has _ (.inr k)
section
variable {X : Cx} {pins : List (Addr × Obj)} {σ : L2.St} {H HZ : Hp} {s s1 : Shared}
theorem lam_start3 {A : Around} {outer : List Env} {E : XK} {scope : Scope} {f c' : Addr} {h₁ : Heap} {tk : Nat} {binds : List (Str × Value)} (I : Inv X pins σ H s) (L : LamP X.N X.env.scope scope) (e0 : Env0 X.prog X.w X.K X.mg X.base A outer s1 HZ) (hd : A.handled = none)
    (un : Un (frs X.stack) [] H HZ s.heap s1.heap) (hns : h₁.Ns s1.heap.objs.size fun y => binds.reverse.lookup y) (kp : ∀ b o, s1.heap.get? b = some o → h₁.get? b = some o) :
    Inv (lamCx X A outer s1 HZ E scope f c') [] σ HZ { s1 with heap := h₁, toks := tk } := by
  have hfree := L.has I.ok
  have cm : ∀ {y c}, (cloFrom X.env.cells scope.names []).lookup y = some c → X.env.cells.lookup y = some c := fun {y c} e => by
    rcases cloFrom_mem (PySem.mem_of_lookup e) with hm | ⟨h1, h2⟩
    · cases hm
    · obtain ⟨c1, hc⟩ := hfree _ h1 rfl
      have hc : X.env.cells.lookup y = some c1 := hc
      have e2 : c = c1 := by
        rw [h2, hc] <;> rfl
      rw [e2]
      exact hc
  have look : ∀ {y}, scope.names.lookup y = some .free → ∃ c, (cloFrom X.env.cells scope.names []).lookup y = some c := fun {y} hl => by
    have hy : (y, NameKind.free) ∈ scope.names := PySem.mem_of_lookup hl
    exact mem_lookup (cloFrom_has (cells := X.env.cells) (acc := []) hy)
  have cellK : ∀ {c : Addr} {v : Option Value}, H c = none → s.heap.IsCell c v → h₁.IsCell c v := fun {c v} n ⟨o, ho, hd⟩ => by
    obtain ⟨sl, q⟩ := un.any ho n (by simp)
    exact ⟨_, kp _ _ q, hd⟩
  have noA : ∀ b : Addr, b ∉ (lamCx X A outer s1 HZ E scope f c').ex := fun b z => absurd (show b ∈ ([] : List Addr) from z) (by simp)
  refine ⟨⟨e0.mod, L.kind, rfl, rfl, Nat.le_refl _, fun y z c e1 e2 => I.ok.inj y z c (cm e1) (cm e2), fun y hy => ?_, fun y c z _ => ?_, fun _ => hd, Around.frames_deeper e0.frames, .inr ⟨rfl, rfl⟩, fun b z => absurd z (noA b), e0.bs, e0.bsz, fun b _ _ => noA b,
      fun b z => absurd z (noA b), e0.funs, e0.frf⟩,
    rfl, e0.bare, Un.kept kp, ⟨_, hns, fun i y v e1 e2 e3 => ?_⟩, fun y c e => ?_, e0.hok.fresh (Nat.le_refl _), fun y c e => ?_, fun q hq => absurd (show q ∈ ([] : List (Addr × Obj)) ++ [] from hq) (by simp), e0.hok.kept kp, I.len⟩
  · have hy : scope.names.lookup y = some .cell ∨ scope.names.lookup y = some .free := hy
    rcases hy with hy | hy
    · exact absurd rfl (L.own _ (PySem.mem_of_lookup hy)).2
    · exact look hy
  · have z : false = true := z
    cases z
  · have e3 : Vis scope y := e3
    rcases e3 with k | k | k
    · exact absurd (List.mem_of_getElem? e1) ((L.own _ (PySem.mem_of_lookup k)).1 rfl)
    · exact absurd rfl (L.own _ (PySem.mem_of_lookup k)).2
    · obtain ⟨m, hn, hl⟩ := I.loc
      have hvis : Vis X.env.scope y := (L.free _ (PySem.mem_of_lookup k) rfl).elim (fun k => .inr (.inl k)) (fun k => .inr (.inr k))
      obtain ⟨w', r, q⟩ := hl i y v e1 e2 hvis
      obtain ⟨c2, h2⟩ := look k
      refine ⟨w', r, .inr ⟨.inr k, c2, h2, ?_⟩⟩
      have c1 := cm h2
      rcases q with ⟨k', _⟩ | ⟨_, c3, e', z⟩
      · have k' : X.env.scope.names.lookup y = some .local := k'
        rcases L.free _ (PySem.mem_of_lookup k) rfl with k2 | k2 <;> rw [show X.env.scope.names.lookup y = _ from k2] at k' <;> cases k'
      · rw [c1] at e'
        cases e'
        exact cellK (I.freeC y _ c1) z
  · obtain ⟨w', z⟩ := I.cell y c (cm e)
    exact ⟨w', cellK (I.freeC y c (cm e)) z⟩
  · obtain ⟨v, o, ho, hd⟩ := I.cell y c (cm e)
    exact un.free c o ho (I.freeC y c (cm e)) (by simp)
/-- x(), in the def that got the lambda -/
theorem pe_act3 {CXg : CXT} {Eg : XK} {Ng : List Str} {qg : Str} {sg : Scope} {g f c' : Addr} {cdg pm doc ctv dV : Value} {params : Arguments} {body : Expr} {scope : Scope} {k i : Nat} {a : Str} {pn : List (Addr × Obj)} {xe : Value → Shared → Prop} {W : WX} {E : XK} {tb : TE} {p1 p2 : Pos}
    (I : Inv X pins σ H s) (L : LamP X.N X.env.scope scope) (hD : DOk dV s.heap H (frs X.stack)) (hf : s.heap.get? f = some (PySem.W.kdv_obj "<lambda>" (X.env.qual ++ "<lambda>") params (.expr body) scope (cloFrom X.env.cells scope.names []) dV doc pm c' ctv)) (hfn : H f = none) (hfr : f ∉ frs X.stack)
    (hbind : ∀ (s' : Shared), DOk dV s'.heap H (frs X.stack) → ∃ binds, BindsTo s' (PySem.W.kdv_fn "<lambda>" (X.env.qual ++ "<lambda>") params (.expr body) scope (cloFrom X.env.cells scope.names []) dV doc pm (.ref c') ctv) ⟨[], []⟩ binds ∧ ∀ y ∈ binds, scope.names.lookup y.1 = some .local)
    (tk : Takes ((cxOf CXg X.prog X.w X.K X.mg X.base Ng qg sg g cdg X.A X.stack s H Eg).tr pn xe) W) (hW : ∀ cls d σ' H', E cls d H' → W cls d σ' H') (hr : Room (k + 1) (X.A.deeper (envOfC qg sg s.heap.objs.size g cdg)))
    (hbody : ∀ (A : Around) (outer : List Env) (s : Shared) (H : Hp), Room k (A.deeper (lamEnv X scope s.heap.objs.size f c')) → PE (lamCx X A outer s H E scope f c') body tb)
    (hN : Ng[i]? = some a) (hv : Vis sg a) (hd : (a == ("__debug__" : Str)) = false := by decide) (hcd : (a == ("__classdict__" : Str)) = false := by decide) :
    PE ((cxOf CXg X.prog X.w X.K X.mg X.base Ng qg sg g cdg X.A X.stack s H Eg).tr pn xe) (.Call (.Name a p1) [] [] p2)
      (fun σZ HZ Q => σZ[i]? = some (some (.ref f)) ∧ HZ c' = some (CodeO c' (X.env.qual ++ "<lambda>")) ∧ tb σ HZ Q) := by
  refine ⟨fun pinsZ sZ σZ HZ Q IZ h => ?_⟩
  obtain ⟨hs, hc, ht⟩ := h
  refine wpAny_Call_Name_kw (thn ((pe_var (pos := p1) (i := i) hN hv hd hcd).run pinsZ sZ σZ HZ (fun v H1 => v = .ref f ∧ H1 = HZ) IZ ⟨.ref f, hs, rfl, rfl⟩) fun u s1 ⟨v, H1, I1, r1, q1⟩ => ?_)
  obtain ⟨ev, eH⟩ := q1
  subst ev
  rw [eH] at I1
  obtain rfl : u = Value.ref f := r1
  have keepN : ∀ b o, s.heap.get? b = some o → H b = none → b ∉ frs X.stack → s1.heap.get? b = some o := fun b o e n nf => I1.base.keep b o e n nf (fun z => nomatch (show b ∈ ([] : List Addr) from z))
  have of1 : s1.heap.get? f = some (PySem.W.kdv_obj "<lambda>" (X.env.qual ++ "<lambda>") params (.expr body) scope (cloFrom X.env.cells scope.names []) dV doc pm c' ctv) := keepN f _ hf hfn hfr
  have D1 : DOk dV s1.heap H (frs X.stack) := by
    rcases hD with hD | ⟨T0, t0, d1, d2, d3, d4⟩
    · exact .inl hD
    · exact .inr ⟨T0, t0, d1, keepN T0 _ d2 d3 d4, d3, d4⟩
  refine PySem.W.callWith_F0 ⟨_, _, _, _, of1⟩ ?_
  have un : Un (frs X.stack) [] H HZ s.heap s1.heap := I1.base
  obtain ⟨⟨oc, vs, t, hoc, hdc, hvc⟩, _, _⟩ := I1.hok c' _ hc
  obtain ⟨binds, hb1, hb2⟩ := hbind s1 D1
  have rc : codeAny (model X.prog X.w) (X.A.deeper (envOfC qg sg s.heap.objs.size g cdg)) (.call (.ref f) ⟨[], []⟩) (CR (L2.CX X.prog X.w) (envOfC qg sg s.heap.objs.size g cdg :: X.stack) X.prog X.w HZ s1 Q E) s1 := by
    refine PySem.W.kla_callFunE hr.depth of1 rfl L.co L.gen rfl ⟨c', oc, vs, t, rfl, hoc, hdc, hvc⟩ ?_
    refine hb1 _ _ _ _ (wpAny_newFunctionEnv (fun y hy => (L.own y hy).2) hb2 (fun h₁ hns hsb => ⟨I1.nolimit.fresh _ hsb, ?_⟩) L.kind)
    show codeAny _ _ (.expr body (lamEnv X scope s1.heap.objs.size f c')) _ _
    have kp : ∀ b o, s1.heap.get? b = some o → h₁.get? b = some o := fun b o e => hsb.extBut b o (Nat.ne_of_lt (Heap.lt_size e)) (Heap.get?_push_of_some _ e)
    have J : Inv (lamCx X (X.A.deeper (envOfC qg sg s.heap.objs.size g cdg)) (envOfC qg sg s.heap.objs.size g cdg :: X.stack) s1 HZ E scope f c') [] σ HZ { s1 with heap := h₁, toks := s1.toks + binds.length } :=
      lam_start3 I L I1.env0 hr.hd un hns kp
    refine PySem.W.kla_codeExpr (wpAny_mono ((hbody _ _ s1 HZ (hr.deeper _)).run [] _ _ HZ Q J ht) (fun v s' hq => ?_) fun e s' hq => hq)
    obtain ⟨w', H', J', rv, q⟩ := hq
    exact ⟨w', H', J'.os, J'.bare, J'.base, J'.hok, rv, q⟩
  have hx : Passes (L2.CX X.prog X.w) ((cxOf CXg X.prog X.w X.K X.mg X.base Ng qg sg g cdg X.A X.stack s H Eg).tr pn xe) E := passes_call tk hW
  refine wpAny_call (codeAny_mono rc fun r s' hq => ?_)
  cases r with
  | error e => exact hx pinsZ σZ HZ s1 e s' I1 hq
  | ok fl =>
    cases fl with
    | ret u => exact I1.after hq
    | next => exact False.elim hq
    | brk => exact False.elim hq
    | cont => exact False.elim hq
end
def tLam3 (T : List (Addr × Str)) (P : Addr) (TT : (XK → Hp → VK → Prop) → Hp → VK → Prop) (t : XK → TE) : TE := fun σ H Q => Tabs T H ∧ ∀ H1, ExtL P H H1 → Tabs T H1 → TT (fun E H' Q' => t E σ H' Q') H1 Q
section
variable {X : Cx}
/-- x(lambda ..: body) -/
theorem pe_lamcall3 {T : List (Addr × Str)} {TT : (XK → Hp → VK → Prop) → Hp → VK → Prop} {x a : Str} {g c P : Addr} {k : Nat} {pg : Arguments} {bg : List Stmt} {sg : Scope} {dV kV doc pm cdv ct oc : Value} {an od : Option Addr} {osl : Array (Option Value)} {Ng : List Str}
    {params : Arguments} {body : Expr} {scope : Scope} {t : XK → TE} {p lpos pos : Pos} (hm : X.mg x = some (.ref g)) (hk : PySem.W.keepIn X.K (.ref g) = true)
    (lk : X.K.lookup g = some ⟨oc, od, .func (PySem.W.fnOf x x pg bg sg dV kV doc pm an cdv ct), osl⟩) (hcg : PySem.W.codeIn X.K cdv x = true) (hb : L2.Binds X.K (PySem.W.fnOf x x pg bg sg dV kV doc pm an cdv ct) [a] []) (Sg : FnScope Ng [a] sg) (hNg : Ng[0]? = some a) (hva : Vis sg a)
    (hG : GivesTo X Ng x sg g cdv bg a (X.env.qual ++ "<lambda>") TT)
    (TB : TabB X.base X.mg c P) (hcode : X.env.code = .ref c) (hmT : (P, X.env.qual ++ "<lambda>") ∈ T) (hu : ∀ p ∈ T, p.1 = P → p.2 = X.env.qual ++ "<lambda>") (hr : Room (k + 2) X.A) (L : LamP X.N X.env.scope scope) (hpar : Par params)
    (hbind : ∀ (q : Str) (cl : List (Str × Addr)) (dV doc pm cv ctv : Value) (s' : Shared) (H : Hp) (fs : List Addr), (params.defaults = [] → dV = .none) → (params.defaults ≠ [] → dV ≠ .none) → DOk dV s'.heap H fs → ∃ binds, BindsTo s' (PySem.W.kdv_fn "<lambda>" q params (.expr body) scope cl dV doc pm cv ctv) ⟨[], []⟩ binds ∧ ∀ y ∈ binds, scope.names.lookup y.1 = some .local)
    (hbody : ∀ (A : Around) (outer : List Env) (s : Shared) (H : Hp) (E : XK) (f c' : Addr), Room k (A.deeper (lamEnv X scope s.heap.objs.size f c')) → PE (lamCx X A outer s H E scope f c') body (t E))
    (hg : Gl X x := by rfl) (hdb : (x == ("__debug__" : Str)) = false := by decide) (hd : (a == ("__debug__" : Str)) = false := by decide) (hcd : (a == ("__classdict__" : Str)) = false := by decide) :
    PE X (.Call (.Name x p) [.Lambda params body scope lpos] [] pos) (tLam3 T P TT t) := by
  refine ⟨fun pins s σ H Q I h => ?_⟩
  obtain ⟨hT, h⟩ := h
  refine wpAny_Call_Name_kw (ld_glob I hg hm ?_ hdb)
  refine PySem.W.callWith_K (h₀ := X.base) I.ok.mod.kin hk ?_ (by rfl) (by rfl)
  show wpAny _ _ (spliced ((false, eval (.Lambda params body scope lpos) X.env) :: backTo pos (starEach [] X.env))) _ _ s
  refine Calls.spliced_cons (lam_make3 I TB hcode hmT hu hT hpar (L.has I.ok) fun f c' pm' doc' ctv dV' H1 s' I1 eN T1 hD hd1 hd2 hf hfn hfr hco => ?_)
  refine Calls.spliced_nil ⟨I1.kIn, ?_⟩
  have rc : codeAny (model X.prog X.w) X.A (.call (.ref g) ⟨[.ref f], []⟩) (CR C8.CX0 X.stack X.prog X.w H1 s' Q C8.E0) s' := by
    refine run_ofS (N := Ng) (ps := [a]) (us := [.ref f]) (vs := [.ref f]) lk hcg Sg hr I1.env0 (hb s' [.ref f] I1.kIn rfl) (.cons rfl .nil) rfl fun hr' => ?_
    obtain ⟨t', ht', hq'⟩ := hG f c' s' H1 Q (fun E H' Q' => t E σ H' Q') (fun W pn xe E p1 p2 tk hW => pe_act3 (i := 0) I1 L hD hf hfn hfr (fun s2 D2 => hbind _ _ _ _ _ _ _ s2 _ _ hd1 hd2 D2) tk hW hr' (fun A outer s H hr2 => hbody A outer s H E f c' hr2) hNg hva hd hcd) hco (h H1 eN T1)
    exact ⟨t', ht'.nox, hq'⟩
  refine wpAny_call (codeAny_mono rc fun r s2 hq => ?_)
  cases r with
  | error e => exact (show False from hq).elim
  | ok fl =>
    cases fl with
    | ret u => exact I1.after hq
    | next => exact False.elim hq
    | brk => exact False.elim hq
    | cont => exact False.elim hq
end
/-- the two shapes of parameters that k75 has -/
def noPar : Arguments := { posonlyargs := [], args := [], vararg := none, kwonlyargs := [], kw_defaults := [], kwarg := none, defaults := [] }
def onePar (a : Str) (p1 p2 : Pos) (j : Nat) : Arguments := { posonlyargs := [], args := [{ arg := a, annotation := none, pos := p1 }], vararg := none, kwonlyargs := [], kw_defaults := [], kwarg := none, defaults := [.Constant (.int 0) j p2] }
theorem bind_no {q : Str} {cl : List (Str × Addr)} {dV doc pm cv ctv : Value} {s' : Shared} {H : Hp} {fs : List Addr} {body : Expr} {scope : Scope} (h : noPar.defaults = [] → dV = .none) :
    ∃ binds, BindsTo s' (PySem.W.kdv_fn "<lambda>" q noPar (.expr body) scope cl dV doc pm cv ctv) ⟨[], []⟩ binds ∧ ∀ y ∈ binds, scope.names.lookup y.1 = some .local := by
  have e := h rfl
  subst e
  exact ⟨[], .of_eq rfl, fun y hy => by cases hy⟩
theorem bind_one {a : Str} {p1 p2 : Pos} {j : Nat} {q : Str} {cl : List (Str × Addr)} {dV doc pm cv ctv : Value} {s' : Shared} {H : Hp} {fs : List Addr} {body : Expr} {scope : Scope} (h : (onePar a p1 p2 j).defaults ≠ [] → dV ≠ .none) (hD : DOk dV s'.heap H fs) (ha : scope.names.lookup a = some .local) (h12 : a = "a1" ∨ a = "a2") :
    ∃ binds, BindsTo s' (PySem.W.kdv_fn "<lambda>" q (onePar a p1 p2 j) (.expr body) scope cl dV doc pm cv ctv) ⟨[], []⟩ binds ∧ ∀ y ∈ binds, scope.names.lookup y.1 = some .local := by
  rcases hD with hD | ⟨T0, t0, rfl, d2, _, _⟩
  · exact absurd hD (h (by unfold onePar; exact fun z => nomatch z))
  · refine ⟨[(a, .int 0 t0)], .of_defaults (T := T0) (items := #[.int 0 t0]) (n := 0) rfl d2 rfl rfl ?_, fun y hy => by
      rcases List.mem_cons.mp hy with e | hy
      · subst e; exact ha
      · cases hy⟩
    rcases h12 with e | e
    · subst e; first | rfl | with_unfolding_all rfl | kernel_rfl
    · subst e; first | rfl | with_unfolding_all rfl | kernel_rfl
end RhL
set_option Elab.async false
set_option linter.all false
set_option maxRecDepth 100000
set_option maxHeartbeats 2000000
/-! Rh: the text by places. -/
namespace Rh
open PySem L2
def top (i : Nat) : Stmt := PySem.Challenge.pw_roundsheld_k75_points_of_lots.main.body.getD i (.Pass ⟨0, 0, 0, 0⟩)
end Rh
set_option Elab.async false
set_option linter.all false
set_option maxRecDepth 100000
set_option maxHeartbeats 2000000
/-! Rh: _law_heard. -/
namespace Rh
open PySem L2 PySem.Spec PyProof.Rows LamX
abbrev NHeard : List Str := ["ask", "caught", "error"]
/-- what the written part says of the errors that _law_heard tells of -/
structure Hrd (K : PySem.W.Frag) (mg : Str → Option Value) (CR CCal CYard CRow CNum CVal : Addr) : Prop where
  gR : mg "RoundError" = some (.ref CR)
  gC : mg "BadCalendar" = some (.ref CCal)
  gY : mg "BadYard" = some (.ref CYard)
  gW : mg "BadRow" = some (.ref CRow)
  gN : mg "BadNumber" = some (.ref CNum)
  gV : mg "BadValue" = some (.ref CVal)
  isi : mg "isinstance" = none
  exN : PySem.W.exmOne K (.ref CNum) (.ref CR) = some true
  exV : PySem.W.exmOne K (.ref CVal) (.ref CR) = some true
  nC : PySem.W.kitOne K (.ref CNum) (.ref CCal) = some false
  nY : PySem.W.kitOne K (.ref CNum) (.ref CYard) = some false
  nW : PySem.W.kitOne K (.ref CNum) (.ref CRow) = some false
  nN : PySem.W.kitOne K (.ref CNum) (.ref CNum) = some true
  vC : PySem.W.kitOne K (.ref CVal) (.ref CCal) = some false
  vY : PySem.W.kitOne K (.ref CVal) (.ref CYard) = some false
  vW : PySem.W.kitOne K (.ref CVal) (.ref CRow) = some false
  vN : PySem.W.kitOne K (.ref CVal) (.ref CNum) = some false
  vV : PySem.W.kitOne K (.ref CVal) (.ref CVal) = some true
  eN : ExcC K CNum
  eV : ExcC K CVal
  fN : XfC K CNum
  fV : XfC K CVal
  pN : PySem.W.findIn K (.ref CNum) "part" = some none
  pV : PySem.W.findIn K (.ref CVal) "part" = some none
/-- what comes of an error: the pair of its kind and its field -/
def Ech (CNum CVal : Addr) (Q : VK) : XK := fun cls d H' => ∃ (b : Bool) (dd : Addr) (v : V), d = some dd ∧ H' dd = some (.xd [(("part" : Str), v)]) ∧ cls = .ref (if b = true then CVal else CNum) ∧
  ∀ a, H' a = none → ∀ q, upd H' a (ErrO cls d a) q = none → Q (.ref q) (upd (upd H' a (ErrO cls d a)) q (.tup [.str (if b = true then "value" else "number"), v]))
def TTh (CNum CVal : Addr) : (XK → Hp → VK → Prop) → Hp → VK → Prop := fun tl H Q => ∀ Q', tl (Ech CNum CVal Q) H Q'
theorem tv_bl {K : PySem.W.Frag} {H : Hp} {b : Bool} : TruV K (.bl b) H b := tru_of (p := 0) (F := fun _ => none) (T := ⟨fun _ => 0, fun _ => [], fun _ => 0, fun _ => Str.empty, []⟩) (fun _ _ h => by cases h) (.bl b) rfl
abbrev sHeard : Stmt := top 57
def tIsi (K : PySem.W.Frag) (C : Addr) : TE := tCB (rIsK K) (tCons (tVar 1) (tCons (tC (.ref C)) tNil))
section
variable {X : Cx} {K : PySem.W.Frag} {CR CCal CYard CRow CNum CVal : Addr}
theorem isi_go {K : PySem.W.Frag} {C D a dd : Addr} {b : Bool} {σ : L2.St} {H : Hp} {v : V} {Q : Bool → Hp → Prop} (h1 : σ[1]? = some (some (.ref a))) (ha : H a = some (ErrO (.ref D) (some dd) a)) (hd : H dd = some (.xd [(("part" : Str), v)])) (he : ExcC K D) (hk : PySem.W.kitOne K (.ref D) (.ref C) = some b) (q : Q b H) :
    tIsi K C σ H fun x H1 => ∃ k, TruV K x H1 k ∧ Q k H1 :=
  ⟨.ref a, h1, a, D, C, some dd, b, rfl, ha, he, fun d2 e => by cases e; exact ⟨_, hd⟩, hk, b, tv_bl, q⟩
theorem heard_gives (T : Hrd X.K X.mg CR CCal CYard CRow CNum CVal) {g : Addr} {cdg : Value} {q : Str} : GivesTo X NHeard "_law_heard" (defScope sHeard) g cdg (defBody sHeard) "ask" q (TTh CNum CVal) := by
  intro f c' s H Q tl act hc h
  have hN : (cxOf C8.CX0 X.prog X.w X.K X.mg X.base NHeard "_law_heard" (defScope sHeard) g cdg X.A X.stack s H C8.E0).nox.N.Nodup := show NHeard.Nodup by decide
  let Y := (cxOf C8.CX0 X.prog X.w X.K X.mg X.base NHeard "_law_heard" (defScope sHeard) g cdg X.A X.stack s H C8.E0).nox
  refine ⟨_, pss_cons (ps_set (X := Y) (i := 1) hN rfl (Or.inl rfl) pe_non) (pss_cons
    (ps_try_keep (X := Y) (c := .ref CR) (ie := 2) (ic := 1) (tb := fun W D σ H => ∃ Ec : XK, (∀ cls d σ' H', Ec cls d H' → W cls d σ' H') ∧ σ[0]? = some (some (.ref f)) ∧ H c' = some (CodeO c' q) ∧ tl Ec H (fun _ H' => D.nx σ H')) rfl rfl rfl hN rfl (by rfl) ⟨rfl, by decide, .inl T.gR⟩ LamX.takes0
      (fun W pn xe tk _ => ?_) (fun a pn => ps_set (i := 1) hN rfl (Or.inl rfl) (pe_var rfl (Or.inl rfl) (by decide) (by decide)) (by rfl) (.inr rfl)) (show 2 < NHeard.length by decide) (by decide))
    (pss_cons (ps_if (X := Y) (pt_truth (pe_callB call_isK rfl T.isi PyProof.Rows.boot_isinstance (pa_cons (pe_var (i := 1) rfl (Or.inl rfl) (by decide) (by decide)) (pa_cons (pe_glob rfl T.gC (v := .ref CCal) rfl) pa_nil))) (by intro _; rfl)) pss_never pss_nil)
    (pss_cons (ps_if (X := Y) (pt_truth (pe_callB call_isK rfl T.isi PyProof.Rows.boot_isinstance (pa_cons (pe_var (i := 1) rfl (Or.inl rfl) (by decide) (by decide)) (pa_cons (pe_glob rfl T.gY (v := .ref CYard) rfl) pa_nil))) (by intro _; rfl)) pss_never pss_nil)
    (pss_cons (ps_if (X := Y) (pt_truth (pe_callB call_isK rfl T.isi PyProof.Rows.boot_isinstance (pa_cons (pe_var (i := 1) rfl (Or.inl rfl) (by decide) (by decide)) (pa_cons (pe_glob rfl T.gW (v := .ref CRow) rfl) pa_nil))) (by intro _; rfl)) pss_never pss_nil)
    (pss_cons (ps_if (X := Y) (pt_truth (pe_callB call_isK rfl T.isi PyProof.Rows.boot_isinstance (pa_cons (pe_var (i := 1) rfl (Or.inl rfl) (by decide) (by decide)) (pa_cons (pe_glob rfl T.gN (v := .ref CNum) rfl) pa_nil))) (by intro _; rfl)) (pss_one (ps_ret (pe_tup (pa_cons pe_str (pa_cons (pe_part (pe_var (i := 1) rfl (Or.inl rfl) (by decide) (by decide))) pa_nil))))) pss_nil)
    (pss_cons (ps_if (X := Y) (pt_truth (pe_callB call_isK rfl T.isi PyProof.Rows.boot_isinstance (pa_cons (pe_var (i := 1) rfl (Or.inl rfl) (by decide) (by decide)) (pa_cons (pe_glob rfl T.gV (v := .ref CVal) rfl) pa_nil))) (by intro _; rfl)) (pss_one (ps_ret (pe_tup (pa_cons pe_str (pa_cons (pe_part (pe_var (i := 1) rfl (Or.inl rfl) (by decide) (by decide))) pa_nil))))) pss_nil)
      pss_never)))))), ?_⟩
  · refine ⟨fun pins s' σ H' D I h' => ?_⟩
    obtain ⟨Ec, hW, h1, h2, h3⟩ := h'
    exact (pss_one (ps_expr (act W pn xe Ec _ _ tk hW))).run pins s' σ H' D I ⟨h1, h2, h3⟩
  · refine ⟨Ech CNum CVal Q, fun cls d σ' H' he => ?_, rfl, hc, h _⟩
    obtain ⟨b, dd, v, rfl, hd, rfl, k⟩ := he
    refine ⟨true, by cases b; exact T.exN; exact T.exV, fun _ hl a ha => ?_, fun z => nomatch z⟩
    have hl : σ'.length = 3 := hl
    have s1 : (((σ'.set 2 (some (V.ref a))).set 1 (some (V.ref a))).set 2 none)[1]? = some (some (V.ref a)) := by
      rw [List.getElem?_set_ne (by decide), List.getElem?_set_self (by simp [hl])]
    generalize ((σ'.set 2 (some (V.ref a))).set 1 (some (V.ref a))).set 2 none = τ at *
    have nd : dd ≠ a := fun z => by rw [z, ha] at hd; cases hd
    have hd' : upd H' a (ErrO (.ref (if b = true then CVal else CNum)) (some dd) a) dd = some (.xd [(("part" : Str), v)]) := by rw [upd_ne nd]; exact hd
    have ha' : upd H' a (ErrO (.ref (if b = true then CVal else CNum)) (some dd) a) a = some (ErrO (.ref (if b = true then CVal else CNum)) (some dd) a) := upd_same
    have k := k a ha
    generalize upd H' a (ErrO (.ref (if b = true then CVal else CNum)) (some dd) a) = G at *
    cases b with
    | false =>
      simp only [Bool.false_eq_true, if_false] at *
      refine isi_go s1 ha' hd' T.eN T.nC ?_
      refine isi_go s1 ha' hd' T.eN T.nY ?_
      refine isi_go s1 ha' hd' T.eN T.nW ?_
      refine isi_go s1 ha' hd' T.eN T.nN ?_
      exact ⟨.ref a, s1, a, _, dd, v, rfl, ha', hd', T.fN, T.pN, (show 2 ≤ sizeLine by decide), fun q hq => k q hq⟩
    | true =>
      simp only [if_true] at *
      refine isi_go s1 ha' hd' T.eV T.vC ?_
      refine isi_go s1 ha' hd' T.eV T.vY ?_
      refine isi_go s1 ha' hd' T.eV T.vW ?_
      refine isi_go s1 ha' hd' T.eV T.vN ?_
      refine isi_go s1 ha' hd' T.eV T.vV ?_
      exact ⟨.ref a, s1, a, _, dd, v, rfl, ha', hd', T.fV, T.pV, (show 2 ≤ sizeLine by decide), fun q hq => k q hq⟩
end
/-! ### by data -/
/-- what _law_heard gives of an error: errors 0 (a number), 1 (a value) -/
def heardF (m : Option (Out D)) : Option (Out D) := match m with
  | some (.ex c d w) => if c = 0 then some (.ok (.tup [.str "number", d]) w) else if c = 1 then some (.ok (.tup [.str "value", d]) w) else none
  | _ => none
def xheard (a : XF) : XF := fun σ w => heardF (a σ w)
theorem ExtL.grow {K : PySem.W.Frag} {T : Tx} {p P : Addr} {F H H1 : Hp} {w : Pn} {σ : L2.St} {env : En} (iv : IV K T p F H σ env w) (hP : ∃ ps, H P = some (.tbl ps)) (e : RhL.ExtL P H H1) (t : Tabs T.tb H1) : IV K T p F H1 σ env w ∧ Grow p F H F H1 := by
  obtain ⟨ps, hP⟩ := hP
  obtain ⟨e, ps', hP'⟩ := e
  have k : ∀ b o, NT o → H b = some o → H1 b = some o := fun b o nt h => e b o (fun z => by rw [z, hP] at h; cases h; exact nt _ rfl) h
  have fh : Ext F H1 := fun b o h => k b o (fun ps z => iv.pen.ntb b ps (z ▸ h)) (iv.sub b o h)
  have g : Grow p F H F H1 := ⟨fun b o _ nt h => k b o nt h, fun b _ h => (by
    cases q : H b with
    | none => rfl
    | some u =>
      by_cases hb : b = P
      · rw [hb, hP'] at h; cases h
      · rw [e b u hb q] at h; cases h), Ext.refl F, fh, fun _ _ h => .inl h⟩
  obtain ⟨c, h1, h2⟩ := iv.pen.at_
  exact ⟨iv.step g ⟨iv.pen.no, ⟨c, k _ _ (nt_lst _) h1, h2⟩, iv.pen.ntb, t⟩, g⟩
section
variable {X : Cx} {T : Tx} {W : XK} {CR CCal CYard CRow CNum CVal : Addr} {fa : XF}
/-- the reading of _law_heard(lambda: e) by data -/
theorem heard_ok {P : Addr} {q : Str} (hT : (P, q) ∈ T.tb) (h0 : T.ea 0 = CNum) (h1 : T.ea 1 = CVal) (f0 : T.ef 0 = "part") (f1 : T.ef 1 = "part") (σ : L2.St) (H : Hp) (Q : VK) (h : tX X.K T W (xheard fa) σ H Q) : RhL.tLam3 T.tb P (TTh CNum CVal) (fun E => tX X.K T E fa) σ H Q := by
  obtain ⟨p, F, env, w, iv, h⟩ := h
  refine ⟨iv.pen.tabs, fun H1 eL tb1 Q' => ?_⟩
  obtain ⟨ps, hP, _⟩ := iv.pen.tabs _ hT
  obtain ⟨iv1, g1⟩ := ExtL.grow iv ⟨ps, hP⟩ eL tb1
  refine ⟨p, F, env, w, iv1, ?_⟩
  unfold xheard heardF at h
  cases e : fa env w with
  | none => rw [e] at h; exact h.elim
  | some o =>
    rw [e] at h
    cases o with
    | ok a w' => exact h.elim
    | ex c d w' =>
      intro dx v F2 H2 g2 pn2 hd rv
      have fin : ∀ (b : Bool), T.ef c = "part" → T.ea c = (if b = true then CVal else CNum) → Post X.K T (RV X.K T) (some (.ok (.tup [.str (if b = true then "value" else "number"), d]) w')) p F H Q W → Ech CNum CVal Q (.ref (T.ea c)) (some dx) H2 := fun b hf hc hp => by
        rw [hf] at hd
        refine ⟨b, dx, v, rfl, hd, by rw [hc], fun a ha q hq => ?_⟩
        have G1 : Grow p F2 H2 F2 (upd H2 a (ErrO (.ref (T.ea c)) (some dx) a)) := Grow.lay g2.fh ha
        have P1 := pn2.lay (o := ErrO (.ref (T.ea c)) (some dx) a) ha
        have G2 : Grow p F2 (upd H2 a (ErrO (.ref (T.ea c)) (some dx) a)) (upd F2 q (.tup [.str (if b = true then "value" else "number"), v])) (upd (upd H2 a (ErrO (.ref (T.ea c)) (some dx) a)) q (.tup [.str (if b = true then "value" else "number"), v])) := Grow.put G1.fh hq
        have P2 := P1.put (o := .tup [.str (if b = true then "value" else "number"), v]) hq G1.fh (nt_tup _)
        refine hp (.ref q) _ _ (((g1.trans g2 pn2.no).trans G1 P1.no).trans G2 P2.no) P2 (.tup (.inl (.inl (by rw [upd_same]))) (.cons (.str _) (.cons (rv.mono G2.ff) .nil)))
      by_cases c0 : c = 0
      · subst c0
        exact fin false f0 h0 h
      · by_cases c1 : c = 1
        · subst c1
          exact fin true f1 h1 h
        · simp only [c0, c1, if_false] at h
          exact h.elim
/-- _law_heard(lambda ..: e) -/
theorem x_heard {g c P : Addr} {k k' : Nat} {dV kV doc pm cdv ct oc : Value} {an od : Option Addr} {osl : Array (Option Value)} {params : Arguments} {body : Expr} {scope : Scope} {p lpos pos : Pos}
    (Hd : Hrd X.K X.mg CR CCal CYard CRow CNum CVal) (h0 : T.ea 0 = CNum) (h1 : T.ea 1 = CVal) (f0 : T.ef 0 = "part") (f1 : T.ef 1 = "part")
    (hm : X.mg "_law_heard" = some (.ref g)) (hk : PySem.W.keepIn X.K (.ref g) = true)
    (lk : X.K.lookup g = some ⟨oc, od, .func (PySem.W.fnOf "_law_heard" "_law_heard" (defArgs sHeard) (defBody sHeard) (defScope sHeard) dV kV doc pm an cdv ct), osl⟩) (hcg : PySem.W.codeIn X.K cdv "_law_heard" = true) (hb : L2.Binds X.K (PySem.W.fnOf "_law_heard" "_law_heard" (defArgs sHeard) (defBody sHeard) (defScope sHeard) dV kV doc pm an cdv ct) ["ask"] [])
    (TB : TabB X.base X.mg c P) (hcode : X.env.code = .ref c) (hmT : (P, X.env.qual ++ "<lambda>") ∈ T.tb) (hu : ∀ p ∈ T.tb, p.1 = P → p.2 = X.env.qual ++ "<lambda>") (hr : Room k' X.A) (hkk : k + 2 ≤ k') (L : RhL.LamP X.N X.env.scope scope) (hpar : RhL.Par params)
    (hbind : ∀ (q : Str) (cl : List (Str × Addr)) (dV doc pm cv ctv : Value) (s' : Shared) (H : Hp) (fs : List Addr), (params.defaults = [] → dV = .none) → (params.defaults ≠ [] → dV ≠ .none) → RhL.DOk dV s'.heap H fs → ∃ binds, BindsTo s' (PySem.W.kdv_fn "<lambda>" q params (.expr body) scope cl dV doc pm cv ctv) ⟨[], []⟩ binds ∧ ∀ y ∈ binds, scope.names.lookup y.1 = some .local)
    (hbody : ∀ (A : Around) (outer : List Env) (s : Shared) (H : Hp) (E : XK) (f c' : Addr), Room k (A.deeper (lamEnv X scope s.heap.objs.size f c')) → PE (lamCx X A outer s H E scope f c') body (tX X.K T E fa)) (hg : Gl X "_law_heard" := by rfl) :
    PE X (.Call (.Name "_law_heard" p) [.Lambda params body scope lpos] [] pos) (tX X.K T W (xheard fa)) :=
  imE (RhL.pe_lamcall3 (t := fun E => tX X.K T E fa) (Ng := NHeard) hm hk lk hcg hb ⟨rfl, rfl, rfl, by decide +kernel, rfl, by decide +kernel, by decide +kernel⟩ rfl (Or.inl rfl) (heard_gives Hd) TB hcode hmT hu (hr.mono hkk) L hpar hbind hbody hg) fun σ H Q h => heard_ok hmT h0 h1 f0 f1 σ H Q h
end
end Rh
set_option Elab.async false
set_option linter.all false
set_option maxRecDepth 100000
set_option maxHeartbeats 4000000
/-! Rh: Paper(..), Lots(..). -/
namespace Rh
open PySem L2 PySem.Spec PyProof.Rows StX NdefX
/-- o.f = .. as a target -/
def gFldT (K : PySem.W.Frag) (ta : TE) (f : Str) : TG := fun v σ H Q => ta σ H fun x H2 => ∃ a C dx fs, x = .ref a ∧ H2 a = some (.ins C dx fs) ∧ Cls K C ∧ NoAttr K C f ∧ fs.length < 1000 ∧ Q σ (upd H2 a (.ins C dx (putF f v fs)))
theorem pg_fldT {X : Cx} {o : Expr} {ta : TE} {f : Str} {pos : Pos} (ha : PE X o ta) : PG X (.Attribute o f pos) (gFldT X.K ta f) := by
  refine ⟨fun pins s σ H v u Q I r h => ?_⟩
  rw [PySem.assign_Attribute]
  refine wpAny_bind (wpAny_holding (thn (ha.run pins s σ H _ I h) fun ov s2 ⟨x, H2, I2, rx, a, C, dx, fs, ex, ea, c, n, l, q2⟩ => ?_))
  subst ex
  obtain rfl : ov = Value.ref a := rx
  refine wpAny_bind (wpAny_standAt (wpAny_bind (wpAny_holding (setattr_ok I2 ea c n l r fun s3 I3 => ?_))))
  exact wpAny_release ⟨σ, _, I3, q2⟩
/-- what the two classes have -/
structure InsOk (K : PySem.W.Frag) (C : Addr) : Prop where
  cl : Cls K C
  nw : NoAttr K C "word"
  np : NoAttr K C "parts"
  nr : NoAttr K C "rays"
  nn : NoAttr K C "numbers"
abbrev NPaper : List Str := ["self", "word", "parts"]
abbrev sPaper : Stmt := inClass (top 21) 0
abbrev sLots : Stmt := inClass (top 40) 0
/-- Paper.__init__ by data: fx what fixed reckons -/
def spPaper (K : PySem.W.Frag) (T : Tx) (fx : FnF) : Sp := fun vs H Q E => ∃ (x C dx : Addr) (vw : V) (t : Addr) (rest : List V) (p : Addr) (F H0 : Hp) (ds : List D) (dp : D) (w : Pn), vs = [.ref x, vw, .ref t] ∧ InsOk K C ∧ H x = some (.ins C dx []) ∧ Ext F H0 ∧ Grow p F H0 F H ∧ Pen T p F H w ∧ H0 x = none ∧
  F t = some (.tup rest) ∧ Rps K T p F rest ds ∧ fx [.tup ds] w = some (.ok dp w) ∧
  ∀ (F' H' : Hp) (vp : V), Grow p F H0 F' H' → Pen T p F' H' w → F' x = none → H' x = some (.ins C dx [(("word" : Str), vw), (("parts" : Str), vp)]) → Rp K T p F' vp dp → Q .non H'
section
variable {P : Program} {w : World} {K : PySem.W.Frag} {mg : Str → Option Value} {base : Heap} {T : Tx}
theorem pen_ne {p : Addr} {F H : Hp} {u : Pn} {x : Addr} {o : HO} (pn : Pen T p F H u) (h : H x = some o) (n : ∀ xs, o ≠ .lst xs) : x ≠ p := fun z => by
  obtain ⟨c, hc, _⟩ := pn.at_
  rw [z, hc] at h
  exact n _ (Option.some.inj h).symm
/-- an instance that is not fixed is written -/
theorem grow_ins {p : Addr} {F H0 H : Hp} {u : Pn} {x C dx : Addr} {fs fs' : List (Str × V)} (g : Grow p F H0 F H) (pn : Pen T p F H u) (hx : H x = some (.ins C dx fs)) (h0 : H0 x = none) (hF : F x = none) : Grow p F H0 F (upd H x (.ins C dx fs')) ∧ Pen T p F (upd H x (.ins C dx fs')) u := by
  have np := pen_ne pn hx (fun xs z => nomatch z)
  have fh : Ext F (upd H x (.ins C dx fs')) := fun b o e => by rw [upd_ne (fun z => by rw [z, hF] at e; cases e)]; exact g.fh b o e
  refine ⟨⟨fun b o hb nt e => ?_, fun b hb e => ?_, g.ff, fh, g.new⟩, ⟨pn.no, ?_, pn.ntb, fun q hq => ?_⟩⟩
  · rw [upd_ne (fun z => by rw [z, h0] at e; cases e)]; exact g.keep b o hb nt e
  · have hbx : b ≠ x := fun z => by rw [z, upd_same] at e; cases e
    rw [upd_ne hbx] at e; exact g.live b hb e
  · obtain ⟨c, c1, c2⟩ := pn.at_
    exact ⟨c, by rw [upd_ne (Ne.symm np)]; exact c1, c2⟩
  · obtain ⟨ps, h1, h2, h3⟩ := pn.tabs q hq
    refine ⟨ps, by rw [upd_ne (fun z => by rw [z, hx] at h1; cases h1)]; exact h1, h2, fun pos cv hc => ?_⟩
    obtain ⟨c, e1, e2⟩ := h3 pos cv hc
    exact ⟨c, e1, by rw [upd_ne (fun z => by rw [z, hx] at e2; unfold LamX.CodeO at e2; cases e2)]; exact e2⟩
theorem paper_ok {fx : FnF} {f : Addr} {k : Nat} {dV kV doc pm cdv ct oc : Value} {an od : Option Addr} {osl : Array (Option Value)}
    (lk : K.lookup f = some ⟨oc, od, .func (PySem.W.fnOf "__init__" "Paper.__init__" (defArgs sPaper) (defBody sPaper) (defScope sPaper) dV kV doc pm an cdv ct), osl⟩) (hcd : PySem.W.codeIn K cdv "Paper.__init__" = true)
    (FX : Fd P w K mg base T k "fixed" 1 fx) (hb : ∀ us rest : List Value, us.length = ["self", "word"].length → bindArgs (PySem.W.fnOf "__init__" "Paper.__init__" (defArgs sPaper) (defBody sPaper) (defScope sPaper) dV kV doc pm an cdv ct) ⟨us ++ rest, []⟩ = (newTuple rest >>= fun t => pure ((["self", "word"] : List Str).zip us ++ [(("parts" : Str), t)]))) :
    FnR P w K mg base (L2.CX P w) (k + 1) f (fun vs H Q E => ∃ ws rest, vs = ws ++ rest ∧ ws.length = ["self", "word"].length ∧ rest.length ≤ sizeLine ∧ ∀ p, H p = Option.none → spPaper K T fx (ws ++ [V.ref p]) (upd H p (.tup rest)) Q E) := by
  refine fn_star (N := NPaper) (ps := ["self", "word"]) (pv := "parts") lk hcd ⟨rfl, rfl, rfl, by decide +kernel, rfl, by decide +kernel, by decide +kernel⟩ cxUp hb fun A outer s H vs Q E hr h => ?_
  obtain ⟨x, C, dx, vw, t, rest, p, F, H0, ds, dp, u, rfl, IO, hx, e0, g, pn, h0, ht, rs, hfx, k⟩ := h
  have hF : F x = none := by
    cases z : F x with
    | none => rfl
    | some o => rw [e0 _ _ z] at h0; cases h0
  refine ⟨_, pss_cons (ps_fld (pe_var (i := 0) rfl (Or.inl rfl) (by decide) (by decide)) (pe_var (i := 1) rfl (Or.inl rfl) (by decide) (by decide)) (by rfl)) (pss_one (ps_fld (pe_var (i := 0) rfl (Or.inl rfl) (by decide) (by decide)) (x_call (W := E) FX hr pass_body (a_cons (x_var 2) a_nil) (Nat.le_refl _)) (by rfl))), ?_⟩
  refine ⟨vw, rfl, .ref x, rfl, x, C, dx, [], rfl, hx, IO.cl, IO.nw, by show 0 < 1000; decide, ?_⟩
  obtain ⟨g1, pn1⟩ := grow_ins (fs' := putF "word" vw []) g pn hx h0 hF
  refine ⟨p, F, [none, none, some (.val (.tup ds))], u, ⟨g1.fh, pn1, rfl, fun i d e => ?_, fun i l e => ?_, fun i j l m a _ e => ?_⟩, ?_⟩
  · match i, e with
    | 2, e => cases e; exact ⟨.ref t, rfl, .tup (.inl (.inl ht)) rs⟩
  · match i, e with
    | 0, e => cases e
    | 1, e => cases e
    | 2, e => cases e
    | n + 3, e => cases e
  · match i, e with
    | 0, e => cases e
    | 1, e => cases e
    | 2, e => cases e
    | n + 3, e => cases e
  · show Post K T (RV K T) (bnd (bnd (opt (slot [none, none, some (.val (.tup ds))] 2) u) fun x w => bnd (some (.ok [] w)) fun xs w => some (.ok (x :: xs) w)) fun ds w => fx ds w) p F _ _ E
    simp only [slot, List.getElem?_cons_succ, List.getElem?_cons_zero, opt_some, bnd_ok]
    rw [hfx]
    intro vp F' H' g2 pn2 rp
    have hxp := pen_ne pn hx (fun xs z => nomatch z)
    have hx2 : H' x = some (.ins C dx (putF "word" vw [])) := g2.keep x _ hxp (fun _ z => nomatch z) upd_same
    have g3 := g1.trans g2 pn2.no
    have hF2 : F' x = none := by
      cases z : F' x with
      | none => rfl
      | some o =>
        rcases g2.new x o z with q | q
        · rw [hF] at q; cases q
        · rw [upd_same] at q; cases q
    refine ⟨.ref x, rfl, x, C, dx, _, rfl, hx2, IO.cl, IO.np, by show 1 < 1000; decide, ?_⟩
    have g3' : Grow p F' H0 F' H' := ⟨g3.keep, g3.live, Ext.refl _, g3.fh, fun _ _ q => .inl q⟩
    obtain ⟨g4, pn4⟩ := grow_ins (fs' := [(("word" : Str), vw), (("parts" : Str), vp)]) g3' pn2 hx2 h0 hF2
    exact k F' _ vp (g3.rebase g4) pn4 hF2 (by rw [upd_same]; rfl) rp
end
end Rh
set_option Elab.async false
set_option linter.all false
set_option maxRecDepth 100000
set_option maxHeartbeats 4000000
/-! Rh: Lots.__init__. -/
namespace Rh
open PySem L2 PySem.Spec PyProof.Rows StX NdefX PySem.W PySem.Calls
abbrev NLots : List Str := ["self", "rays", "numbers", "__class__"]
def lotsF (cc cda : Addr) : NF := ⟨"__init__", "Lots.__init__", defArgs sLots, defBody sLots, defScope sLots, [("__class__", cc)], cda⟩
/-- what the written part says of Lots at C, its __init__ at fI, Paper's at fP -/
structure LotsTxt (P : Program) (K : PySem.W.Frag) (mg : Str → Option Value) (C fI fP : Addr) : Prop where
  io : InsOk K C
  cls : ∃ cd bm, clsIn K C = some cd ∧ cd.mro = .ref C :: bm ∧ alongIn K "__init__" bm = some (some (.ref fP))
  fPc : ∃ o, K.lookup fP = some o ∧ o.cls = .type "function"
  fPi : fnIn K fP = true
  ccM : mroIn K C (.ref C) = some true
  su : mg "super" = none
  opq : nsIn K cStatics "thirdparty.any" = some none
  fn : ∃ (oc : Value) (od : Option Addr) (doc pm : Value) (cda : Addr) (ct : Value) (osl : Array (Option Value)) (cc : Addr) (cl : Value) (cld : Option Addr) (csl : Array (Option Value)) (ccl : Value) (cdd : Option Addr) (vs : Array Value) (ccs : Array (Option Value)) (file : Str) (tf : Tok),
    K.lookup fI = some ⟨oc, od, .func ((lotsF cc cda).fd doc pm ct), osl⟩ ∧ codeIn K (.ref cda) "Lots.__init__" = true ∧
    K.lookup cc = some ⟨cl, cld, .cell (some (.ref C)), csl⟩ ∧ K.lookup cda = some ⟨ccl, cdd, .fields vs, ccs⟩ ∧ vs[2]? = some (.str file tf) ∧ ((P.main.file : Str) == file) = true
  top : (P.main.scope.names.lookup ("super" : Str)).isSome = false
def spLots (K : PySem.W.Frag) (T : Tx) (fx : FnF) (C : Addr) : Sp := fun vs H Q E => ∃ (x dx : Addr) (vr vn : V) (p : Addr) (F H0 : Hp) (dr dn dr' dn' : D) (w : Pn), vs = [.ref x, vr, vn] ∧ H x = some (.ins C dx []) ∧ Ext F H0 ∧ Grow p F H0 F H ∧ Pen T p F H w ∧ H0 x = none ∧
  Rp K T p F vr dr ∧ Rp K T p F vn dn ∧ fx [.tup [dr, dn]] w = some (.ok (.tup [dr', dn']) w) ∧
  ∀ (F' H' : Hp) (vp ur un : V), Grow p F H0 F' H' → Pen T p F' H' w → F' x = none → H' x = some (.ins C dx [(("word" : Str), .str "lots"), (("parts" : Str), vp), (("rays" : Str), ur), (("numbers" : Str), un)]) →
    Rp K T p F' vp (.tup [dr', dn']) → Rp K T p F' ur dr' → Rp K T p F' un dn' → Q .non H'
section
variable {P : Program} {w : World} {K : PySem.W.Frag} {mg : Str → Option Value} {base : Heap} {T : Tx} {C fI fP : Addr} {fx : FnF} {k : Nat}
theorem lots_ok (LT : LotsTxt P K mg C fI fP)
    (FP : FnR P w K mg base (L2.CX P w) k fP (fun vs H Q E => ∃ ws rest, vs = ws ++ rest ∧ ws.length = ["self", "word"].length ∧ rest.length ≤ sizeLine ∧ ∀ p, H p = Option.none → spPaper K T fx (ws ++ [V.ref p]) (upd H p (.tup rest)) Q E)) :
    FnR P w K mg base (L2.CX P w) (k + 1) fI (spLots K T fx C) := by
  intro A outer s H us vs Q E hr e0 r hsp
  obtain ⟨x, dx, vr, vn, p, F, H0, dr, dn, dr', dn', u, rfl, hx, x0, g, pn, h0, rr, rn, hfx, kk⟩ := hsp
  obtain ⟨oc, od, doc, pm, cda, ct, osl, cc, cl, cld, csl, ccl, cdd, vs', ccs, file, tf, ho, hcd, hcell, hcode, hvs, hfile⟩ := LT.fn
  obtain ⟨cd, bm, hcl, hmro, hal⟩ := LT.cls
  have hF : F x = none := by
    cases z : F x with
    | none => rfl
    | some o => rw [x0 _ _ z] at h0; cases h0
  have kb : ∀ b o, base.get? b = some o → s.heap.get? b = some o := fun b o e => (e0.bs b o e).1
  have X : K.In s.heap := e0.mod.kin.keeps kb
  have lim : s.heap.NoLimit := e0.mod.nolimit.keeps kb
  obtain ⟨u1, u2, u3, rfl, r1, r2, r3⟩ : ∃ u1 u2 u3, us = [u1, u2, u3] ∧ RelV (.ref x) u1 ∧ RelV vr u2 ∧ RelV vn u3 := by
    cases r with
    | cons a r => cases r with
      | cons b r => cases r with
        | cons c r => cases r; exact ⟨_, _, _, rfl, a, b, c⟩
  cases (show u1 = Value.ref x from r1)
  have S : NScope NLots ["self", "rays", "numbers"] ["__class__"] (defScope sLots) := nscope_by (by decide +kernel)
  refine codeAny_call_function hr.depth (X _ _ ho) rfl S.co S.gen rfl (codeRec_of X hcd) ?_
  rw [show bindArgs ((lotsF cc cda).fd doc pm ct) ⟨[.ref x, u2, u3], []⟩ = pure ((["self", "rays", "numbers"] : List Str).zip [.ref x, u2, u3]) from rfl]
  refine wpAny_pure (wpAny_newFunctionEnv S.nocell (fun ⟨n, _⟩ hy => S.par n (List.of_mem_zip hy).1) (fun h₁ hns hsb => ⟨lim.fresh _ hsb, ?_⟩) S.kind)
  show codeAny _ _ (.func (defBody sLots) (envF (lotsF cc cda) fI s.heap.objs.size)) _ _
  refine ks_codeAny_funcAt ?_
  have kp : ∀ b o, s.heap.get? b = some o → h₁.get? b = some o := fun b o e => hsb.extBut b o (Nat.ne_of_lt (Heap.lt_size e)) (Heap.get?_push_of_some _ e)
  have CA : CellsAt (lotsF cc cda).cl ["__class__"] [some (.ref C)] s.heap H := by
    have lk : ∀ {y c}, (lotsF cc cda).cl.lookup y = some c → y = "__class__" ∧ c = cc := fun {y c} e => by
      have e : List.lookup y [(("__class__" : Str), cc)] = some c := e
      rw [List.lookup_cons] at e
      split at e
      · rename_i h; cases e; exact ⟨by simpa using h, rfl⟩
      · cases e
    have hb : base.get? cc = some ⟨cl, cld, .cell (some (.ref C)), csl⟩ := e0.mod.kin _ _ hcell
    refine ⟨rfl, fun y c e => ?_, fun a b c e1 e2 => (lk e1).1.trans (lk e2).1.symm, fun i y e => ?_⟩
    · obtain ⟨_, rfl⟩ := lk e
      exact ⟨(e0.bs _ _ hb).2, _, _, X _ _ hcell, rfl⟩
    · match i, e with
      | 0, e => cases e; exact ⟨cc, rfl, fun v e => by cases e; exact ⟨.ref C, rfl, _, X _ _ hcell, rfl⟩⟩
  have I : Inv (ncx (L2.CX P w) P w K mg base NLots (lotsF cc cda) fI A outer s H E) [] (startF NLots [.ref x, vr, vn] [some (.ref C)]) H { s with heap := h₁, toks := s.toks + 3 } :=
    inv_startN S hr.hd e0 rfl (.cons rfl (.cons r2 (.cons r3 .nil))) CA hns kp
  have X1 : K.In h₁ := X.keeps kp
  obtain ⟨oC, hC, hCd⟩ : ∃ o, K.lookup C = some o ∧ o.data = .cls cd := by
    unfold clsIn at hcl
    split at hcl
    · rename_i c d cd' sl hoc
      cases hcl
      exact ⟨_, hoc, rfl⟩
    · cases hcl
  show _root_.PySem.wpAt (model P w) (A.deeper (envF (lotsF cc cda) fI s.heap.objs.size)) (.func (defBody sLots) (envF (lotsF cc cda) fI s.heap.objs.size)) (execs (_ :: _) (envF (lotsF cc cda) fI s.heap.objs.size)) _ _ _
  refine ks_wpAt_execs_cons (ks_wpAt_Expr_any (ks_wpAt_MethodCall ?_))
  refine ks_wpAt_super_base (env := envF (lotsF cc cda) fI s.heap.objs.size) (ar := { arg := "self", annotation := none, pos := ⟨151, 17, 151, 21⟩ }) (by rfl) (by rfl) (by decide) rfl (X1 _ _ ho) rfl rfl rfl (X1 _ _ hcode) rfl hvs hfile LT.top ?_
  obtain ⟨mb, hb1, hb2⟩ := e0.mod.blt
  have kb1 : ∀ b o, base.get? b = some o → h₁.get? b = some o := fun b o e => kp b o (kb b o e)
  refine ks_loadName_global rfl (by rfl) (loadGlobal_builtin (env := envF (lotsF cc cda) fI s.heap.objs.size) (e0.mod.glob.keeps kb1) LT.su (hb1.keeps kb1) ((hb2 _ (by decide)).trans (show bootBuiltins "super" = some (.type "super") by decide +kernel)) ⟨rfl, ?_⟩)
  refine wpAny_loadName_free rfl (by rfl) rfl ⟨_, X1 _ _ hcell, rfl⟩ ?_
  refine wpAny_loadName_local rfl (by rfl) hns (show (([("self", Value.ref x), ("rays", u2), ("numbers", u3)] : List (Str × Value)).reverse.lookup ("self" : Str)) = some (.ref x) from rfl) ?_
  obtain ⟨mA, O, _⟩ := ins_get I.hok hx
  obtain ⟨od1, J1, _⟩ := O.look
  have nocls : ∀ c, (PySem.W.instObj C dx).data ≠ .cls c := fun c z => nomatch z
  refine ks_wpAny_isType_cls (X1 _ _ hC) hCd ⟨rfl, ?_⟩
  refine ks_wpAny_call_super (X1 _ _ hC) hCd J1.at_ J1.cls nocls (looks_mroIn X1 LT.ccM) (fun h2 hso k2 => ?_)
  have X2 : K.In h2 := X1.keeps k2
  obtain ⟨ofP, hfP, hfPc⟩ := LT.fPc
  have J2 : InstAt h2 x (PySem.W.instObj C dx) C (some od1) := ⟨k2 _ _ J1.at_, J1.cls, J1.no, k2 _ _ J1.dict⟩
  refine ks_wpAny_getMethod_super hso (looks_opaque X2 LT.opq) (l₀ := .ref C :: bm) (fun A Q E s k q => wpAny_bind ((looks_clsIn X2 hcl) A _ E s k (wpAny_pure (by rw [hmro]; exact q)))) (by simp [List.dropWhile_cons]) X2 hal (X2 _ _ hfP) hfPc (ks_ne X2 J2 hcl) (by decide) ?_
  generalize hqq : h2.objs.size = q
  have hsz : h₁.objs.size ≤ q := by
    rw [← hqq]
    have := Heap.lt_size hso
    exact Nat.le_of_lt this
  have hq3 : (h2.push { cls := .type "method", data := .fields #[.ref fP, .ref x] }).get? q = some { cls := .type "method", data := .fields #[.ref fP, .ref x] } := by rw [← hqq]; exact Heap.get?_push_size _ rfl
  have k3 : ∀ b o, h₁.get? b = some o → (h2.push { cls := .type "method", data := .fields #[.ref fP, .ref x] }).get? b = some o := fun b o e => Heap.get?_push_of_some _ (k2 b o e)
  generalize hh3 : h2.push { cls := .type "method", data := .fields #[.ref fP, .ref x] } = h3 at *
  have I3a : Inv (ncx (L2.CX P w) P w K mg base NLots (lotsF cc cda) fI A outer s H E) [] (startF NLots [.ref x, vr, vn] [some (.ref C)]) H { s with heap := h3, toks := s.toks + 3 + 1 } := I.kept (t' := s.toks + 3 + 1) k3
  have hLq : s.heap.objs.size < q := Nat.lt_of_lt_of_le hns.lt hsz
  have I3 : Inv (ncx (L2.CX P w) P w K mg base NLots (lotsF cc cda) fI A outer s H E) [(q, { cls := .type "method", data := .fields #[.ref fP, .ref x] })] (startF NLots [.ref x, vr, vn] [some (.ref C)]) H { s with heap := h3, toks := s.toks + 3 + 1 } :=
    ⟨I3a.ok, I3a.os, I3a.bare, I3a.base, I3a.loc, I3a.cell, I3a.free, I3a.freeC, fun pp hp => by
      have hp : pp ∈ ([] : List (Addr × Obj)) ++ [(q, { cls := .type "method", data := .fields #[.ref fP, .ref x] })] := hp
      have e : pp = (q, { cls := .type "method", data := .fields #[.ref fP, .ref x] }) := by simpa using hp
      subst e
      exact ⟨hq3, I.hok.fresh hsz, Nat.ne_of_gt hLq, I.nofs hsz, fun v z => nomatch z⟩, I3a.hok, I3a.len⟩
  have pv : ∀ (i : Nat) {x : Str} {pos : Pos}, NLots[i]? = some x → Vis (defScope sLots) x → (x == ("__debug__" : Str)) = false → (x == ("__classdict__" : Str)) = false → PE (ncx (L2.CX P w) P w K mg base NLots (lotsF cc cda) fI A outer s H E) (.Name x pos) (tVar i) := fun i {x pos} h1 h2 h3 h4 => pe_var h1 h2 h3 h4
  have slf : ∀ {pos : Pos}, PE (ncx (L2.CX P w) P w K mg base NLots (lotsF cc cda) fI A outer s H E) (.Name "self" pos) (tVar 0) := fun {pos} => pv 0 rfl (Or.inl rfl) (by decide) (by decide)
  refine callWith_of (P := MethP K q fP (.ref x)) (by rfl) (keeps_M LT.fPi) (evalArgs_plain ?_)
  refine thn ((pa_cons pe_str (pa_cons (pv 1 rfl (Or.inl rfl) (by decide) (by decide)) (pa_cons (pv 2 rfl (Or.inl rfl) (by decide) (by decide)) pa_nil))).run _ _ _ _ _ (fun vs H' => vs = [.str "lots", vr, vn] ∧ H' = H) I3 ⟨vr, rfl, vn, rfl, rfl, rfl⟩) fun us4 s4 ⟨vs4, H4, I4, r4, e4, eH⟩ => ?_
  subst e4 eH
  have hq4 : s4.heap.get? q = some { cls := .type "method", data := .fields #[.ref fP, .ref x] } := (I4.pin (q, _) (by simp)).1
  refine ⟨⟨hq4, I4.kIn⟩, ?_⟩
  show wpAny _ _ (call (.ref q) us4) _ _ _
  have hIO := LT.io
  have hp := pen_ne pn hx (fun xs z => nomatch z)
  refine wpAny_call (ks_codeAny_call_bound hq4 (codeAny_mono (FP _ (ncx (L2.CX P w) P w K mg base NLots (lotsF cc cda) fI A outer s H4 E).stack s4 H4 (.ref x :: us4) (.ref x :: [.str "lots", vr, vn])
    (fun v H' => v = .non ∧ ∃ F' vp, Grow p F H0 F' H' ∧ Pen T p F' H' u ∧ F' x = none ∧ H' x = some (.ins C dx [(("word" : Str), .str "lots"), (("parts" : Str), vp)]) ∧ Rp K T p F' vp (.tup [dr', dn'])) E (hr.deeper _) I4.env0 (.cons rfl r4)
    ⟨[.ref x, .str "lots"], [vr, vn], rfl, rfl, (show 2 ≤ sizeLine by decide), fun t ht => ?_⟩) fun r5 s5 hq5 => ?_))
  · -- Paper's promise
    have tp : t ≠ p := fun z => by obtain ⟨c, hc, _⟩ := pn.at_; rw [z, hc] at ht; cases ht
    have ht0 : H0 t = none := g.live t tp ht
    have htF : F t = none := by
      cases z : F t with
      | none => rfl
      | some o => rw [x0 _ _ z] at ht0; cases ht0
    have g0 : Grow p F H0 (upd F t (.tup [vr, vn])) (upd H0 t (.tup [vr, vn])) := Grow.put x0 ht0
    have gt : Grow p (upd F t (.tup [vr, vn])) (upd H0 t (.tup [vr, vn])) (upd F t (.tup [vr, vn])) (upd H4 t (.tup [vr, vn])) := by
      refine ⟨fun b o hb nt e => ?_, fun b hb e => ?_, Ext.refl _, fun b o e => ?_, fun b o e => .inl e⟩
      · by_cases hbt : b = t
        · subst hbt; rw [upd_same] at e ⊢; exact e
        · rw [upd_ne hbt] at e ⊢; exact g.keep b o hb nt e
      · have hbt : b ≠ t := fun z => by rw [z, upd_same] at e; cases e
        rw [upd_ne hbt] at e ⊢; exact g.live b hb e
      · by_cases hbt : b = t
        · subst hbt; rw [upd_same] at e ⊢; exact e
        · rw [upd_ne hbt] at e ⊢; exact g.fh b o e
    have xt : x ≠ t := ne_of_none hx ht
    refine ⟨x, C, dx, .str "lots", t, [vr, vn], p, upd F t (.tup [vr, vn]), upd H0 t (.tup [vr, vn]), [dr, dn], .tup [dr', dn'], u, rfl, hIO, by rw [upd_ne xt]; exact hx, g0.fh, gt, pn.put ht g.fh (nt_tup _), by rw [upd_ne xt]; exact h0, upd_same, .cons (rr.mono g0.ff) (.cons (rn.mono g0.ff) .nil), hfx, fun F' H' vp g' pn' f' h' rp => ?_⟩
    exact ⟨rfl, F', vp, g0.trans g' pn'.no, pn', f', h', rp⟩
  · cases r5 with
    | error e => exact passes_call (X := ncx (L2.CX P w) P w K mg base NLots (lotsF cc cda) fI A outer s H4 E) (takes_of rfl rfl rfl rfl) (fun _ _ _ _ h => h) _ _ _ _ e s5 I4 hq5
    | ok fl =>
      cases fl with
      | next => exact False.elim hq5
      | brk => exact False.elim hq5
      | cont => exact False.elim hq5
      | ret u5 =>
        obtain ⟨v5, H5, I5, rv5, rfl, F', vp, g5, pn5, f5, h5, rp5⟩ := I4.after hq5
        obtain ⟨a2, ws2, rfl, hq2, rs2⟩ : ∃ a2 ws2, vp = .ref a2 ∧ SqT K F' a2 ws2 ∧ Rps K T p F' ws2 [dr', dn'] := by
          cases rp5 with
          | tup h r => exact ⟨_, _, rfl, h, r⟩
        obtain ⟨ur, un, rfl, rr5, rn5⟩ := two_of rs2
        refine wpAt_of_wpAny ?_
        refine thn ((pss_one (ps_asg (tg := .Tuple [.Attribute (.Name "self" _) "rays" _, .Attribute (.Name "self" _) "numbers" _] _ _) (pe_fld slf (by rfl)) (pg_tup rfl (pgs_cons (pg_fldT slf) (pgs_cons (pg_fldT slf) pgs_nil))))).run _ _ _ _ { nx := fun _ H' => Q .non H', rt := Q } I5
          ⟨.ref x, rfl, x, C, dx, _, .ref a2, rfl, h5, hIO.cl, hIO.np, rfl, a2, [ur, un], rfl, g5.fh.t hq2, rfl, ur, [un], rfl, .ref x, rfl, x, C, dx, _, rfl, h5, hIO.cl, hIO.nr, (by show 2 < 1000; decide), un, [], rfl, .ref x, rfl, x, C, dx, _, rfl, upd_same, hIO.cl, hIO.nn, (by show 3 < 1000; decide), rfl, ?_⟩) fun fl6 s6 hs6 => ?_
        · have g5' : Grow p F' H0 F' H5 := ⟨g5.keep, g5.live, Ext.refl _, g5.fh, fun _ _ q => .inl q⟩
          obtain ⟨g6, pn6⟩ := grow_ins (fs' := putF "rays" ur [(("word" : Str), .str "lots"), (("parts" : Str), .ref a2)]) g5' pn5 h5 h0 f5
          obtain ⟨g7, pn7⟩ := grow_ins (fs' := putF "numbers" un (putF "rays" ur [(("word" : Str), .str "lots"), (("parts" : Str), .ref a2)])) g6 pn6 upd_same h0 f5
          exact kk F' _ (.ref a2) ur un (g5.rebase g7) pn7 f5 (by rw [upd_same]; rfl) (.tup hq2 rs2) rr5 rn5
        · cases fl6 with
          | ret u' =>
            obtain ⟨v', σ', H', J, rv', q'⟩ := hs6
            exact ⟨v', H', J.os, J.bare, J.base, J.hok, rv', q'⟩
          | next =>
            obtain ⟨σ', H', J, q'⟩ := hs6
            exact ⟨.non, H', J.os, J.bare, J.base, J.hok, rfl, q'⟩
          | brk =>
            obtain ⟨_, _, _, q'⟩ := hs6
            exact False.elim q'
          | cont =>
            obtain ⟨_, _, _, q'⟩ := hs6
            exact False.elim q'
/-! ### by data -/
def mkLotsF (fx : FnF) (a b : D) (w : Pn) : Option (Out D) := match fx [.tup [a, b]] w with
  | some (.ok (.tup [x, y]) _) => some (.ok (.ins 1 [.str "lots", .tup [x, y], x, y]) w)
  | _ => none
def xlots (fx : FnF) (a b : XF) : XF := fun σ w => bnd (a σ w) fun x w => bnd (b σ w) fun y w => mkLotsF fx x y w
def mkPaperF (fx : FnF) (s a b : D) (w : Pn) : Option (Out D) := match fx [.tup [a, b]] w with
  | some (.ok d _) => some (.ok (.ins 0 [s, d]) w)
  | _ => none
def xpaper (fx : FnF) (s a b : XF) : XF := fun σ w => bnd (s σ w) fun s w => bnd (a σ w) fun x w => bnd (b σ w) fun y w => mkPaperF fx s x y w
end
section
variable {X : Cx} {T : Tx} {W : XK} {C fI fP : Addr} {fx : FnF} {fa fb fc : XF} {a b c : Expr} {p1 pos : Pos} {k k' : Nat}
/-- fixed gives its answer wherever it is asked, and leaves the pen -/
def Still (fx : FnF) : Prop := ∀ ds w d w', fx ds w = some (.ok d w') → w' = w
theorem x_lots (hst : Still fx) (LT : LotsTxt X.prog X.K X.mg C fI fP) (M : Mk X.K C fI) (hT : T.ca 1 = C) (hn : T.fnm 1 = (["word", "parts", "rays", "numbers"] : List Str)) (hm : X.mg "Lots" = some (.ref C))
    (FL : FnR X.prog X.w X.K X.mg X.base (L2.CX X.prog X.w) k fI (spLots X.K T fx C)) (hr : Room k' X.A) (hk : k + 1 ≤ k') (hp : Passes (L2.CX X.prog X.w) X W) (ha : PE X a (tX X.K T W fa)) (hb : PE X b (tX X.K T W fb)) (hg : Gl X "Lots" := by rfl)
    (hs2 : starEach (a :: [b]) X.env = (false, eval a X.env) :: starEach [b] X.env := by rfl) (hs1 : starEach (b :: []) X.env = (false, eval b X.env) :: starEach [] X.env := by rfl) (hpl : (backTo pos (starEach [b] X.env)).any (·.1) = false := by rfl) :
    PE X (.Call (.Name "Lots" p1) [a, b] [] pos) (tX X.K T W (xlots fx fa fb)) :=
  imE (pe_makeR M FL (hr.mono hk) hg hm hp (pa_cons ha (pa_cons hb pa_nil hs1) hs2) (by decide) hs2 hpl) fun σ H Q ⟨p, F, env, w, iv, h⟩ => by
    refine ⟨p, F, env, w, iv, Post.bind h fun x w1 v1 F1 H1 _ g1 pn1 r1 h1 => ?_⟩
    refine ⟨p, F1, env, w1, iv.step g1 pn1, Post.bind h1 fun y w2 v2 F2 H2 _ g2 pn2 r2 h2 => ?_⟩
    intro ax dx hx hd hne
    unfold mkLotsF at h2
    split at h2
    · rename_i x' y' w' e
      have ew := hst _ _ _ _ e
      rw [ew] at e
      have d0 : upd H2 dx (.own ax) ax = none := by rw [upd_ne (Ne.symm hne)]; exact hx
      have gd : Grow p F2 H2 F2 (upd H2 dx (.own ax)) := Grow.lay g2.fh hd
      have pd := pn2.lay (o := .own ax) hd
      have gx : Grow p F2 (upd H2 dx (.own ax)) F2 (upd (upd H2 dx (.own ax)) ax (.ins C dx [])) := Grow.lay gd.fh d0
      have px := pd.lay (o := .ins C dx []) d0
      refine ⟨ax, dx, v1, v2, p, F2, H2, x, y, x', y', w2, rfl, upd_same, g2.fh, gd.trans gx pn2.no, px, hx, r1.mono g2.ff, r2, e, fun F' H' vp ur un g' pn' f' h' rp rr rn => ⟨rfl, ?_⟩⟩
      have ap := pen_ne pn' h' (fun xs z => nomatch z)
      have ef : Ext F' (upd F' ax (.ins C dx [(("word" : Str), .str "lots"), (("parts" : Str), vp), (("rays" : Str), ur), (("numbers" : Str), un)])) := ext_put f'
      refine h2 (.ref ax) (upd F' ax (.ins C dx [(("word" : Str), .str "lots"), (("parts" : Str), vp), (("rays" : Str), ur), (("numbers" : Str), un)])) H' ⟨g'.keep, g'.live, g'.ff.trans ef, fun b o q => ?_, fun b o q => ?_⟩ (pn'.fix ap (fun _ z => nomatch z) f') ?_
      · by_cases hb : b = ax
        · subst hb; rw [upd_same] at q; rw [h']; exact q
        · rw [upd_ne hb] at q; exact g'.fh b o q
      · by_cases hb : b = ax
        · subst hb; exact .inr hx
        · rw [upd_ne hb] at q; exact g'.new b o q
      · exact .ins (fs := [(("word" : Str), .str "lots"), (("parts" : Str), vp), (("rays" : Str), ur), (("numbers" : Str), un)]) (dx := dx) (by rw [upd_same, hT]) (by rw [hn]; rfl) (.cons (.str _) (.cons (rp.mono ef) (.cons (rr.mono ef) (.cons (rn.mono ef) .nil))))
    · exact h2.elim
theorem x_paper (hst : Still fx) (IO : InsOk X.K C) (M : Mk X.K C fI) (hT : T.ca 0 = C) (hn : T.fnm 0 = (["word", "parts"] : List Str)) (hm : X.mg "Paper" = some (.ref C))
    (FP : FnR X.prog X.w X.K X.mg X.base (L2.CX X.prog X.w) k fI (fun vs H Q E => ∃ ws rest, vs = ws ++ rest ∧ ws.length = ["self", "word"].length ∧ rest.length ≤ sizeLine ∧ ∀ p, H p = Option.none → spPaper X.K T fx (ws ++ [V.ref p]) (upd H p (.tup rest)) Q E)) (hr : Room k' X.A) (hk : k + 1 ≤ k') (hp : Passes (L2.CX X.prog X.w) X W)
    (ha : PE X a (tX X.K T W fa)) (hb : PE X b (tX X.K T W fb)) (hc : PE X c (tX X.K T W fc)) (hg : Gl X "Paper" := by rfl)
    (hs3 : starEach (a :: [b, c]) X.env = (false, eval a X.env) :: starEach [b, c] X.env := by rfl) (hs2 : starEach (b :: [c]) X.env = (false, eval b X.env) :: starEach [c] X.env := by rfl) (hs1 : starEach (c :: []) X.env = (false, eval c X.env) :: starEach [] X.env := by rfl) (hpl : (backTo pos (starEach [b, c] X.env)).any (·.1) = false := by rfl) :
    PE X (.Call (.Name "Paper" p1) [a, b, c] [] pos) (tX X.K T W (xpaper fx fa fb fc)) :=
  imE (pe_makeR M FP (hr.mono hk) hg hm hp (pa_cons ha (pa_cons hb (pa_cons hc pa_nil hs1) hs2) hs3) (by decide) hs3 hpl) fun σ H Q ⟨p, F, env, w, iv, h⟩ => by
    refine ⟨p, F, env, w, iv, Post.bind h fun s w0 v0 F0 H0 _ g0 pn0 r0 h0 => ?_⟩
    refine ⟨p, F0, env, w0, iv.step g0 pn0, Post.bind h0 fun x w1 v1 F1 H1 _ g1 pn1 r1 h1 => ?_⟩
    refine ⟨p, F1, env, w1, (iv.step g0 pn0).step g1 pn1, Post.bind h1 fun y w2 v2 F2 H2 _ g2 pn2 r2 h2 => ?_⟩
    intro ax dx hx hd hne
    refine ⟨[.ref ax, v0], [v1, v2], rfl, rfl, (show 2 ≤ sizeLine by decide), fun t ht => ?_⟩
    unfold mkPaperF at h2
    split at h2
    · rename_i d w' e
      have ew := hst _ _ _ _ e
      rw [ew] at e
      have d0 : upd H2 dx (.own ax) ax = none := by rw [upd_ne (Ne.symm hne)]; exact hx
      have gd : Grow p F2 H2 F2 (upd H2 dx (.own ax)) := Grow.lay g2.fh hd
      have pd := pn2.lay (o := .own ax) hd
      have gx : Grow p F2 (upd H2 dx (.own ax)) F2 (upd (upd H2 dx (.own ax)) ax (.ins C dx [])) := Grow.lay gd.fh d0
      have px := pd.lay (o := .ins C dx []) d0
      have at_ : ax ≠ t := fun z => by rw [← z, upd_same] at ht; cases ht
      have gt : Grow p F2 (upd (upd H2 dx (.own ax)) ax (.ins C dx [])) (upd F2 t (.tup [v1, v2])) (upd (upd (upd H2 dx (.own ax)) ax (.ins C dx [])) t (.tup [v1, v2])) := Grow.put gx.fh ht
      have pt := px.put (o := .tup [v1, v2]) ht gx.fh (nt_tup _)
      have G := ((gd.trans gx pn2.no).trans gt pt.no)
      have htH : H2 t = none := by
        have np : t ≠ p := fun z => by obtain ⟨cc, hc, _⟩ := px.at_; rw [z, hc] at ht; cases ht
        exact (gd.trans gx pn2.no).live t np ht
      have g0' : Grow p F2 H2 (upd F2 t (.tup [v1, v2])) (upd H2 t (.tup [v1, v2])) := Grow.put g2.fh htH
      have gt' : Grow p (upd F2 t (.tup [v1, v2])) (upd H2 t (.tup [v1, v2])) (upd F2 t (.tup [v1, v2])) (upd (upd (upd H2 dx (.own ax)) ax (.ins C dx [])) t (.tup [v1, v2])) := by
        have gg := gd.trans gx pn2.no
        refine ⟨fun b o hb nt e => ?_, fun b hb e => ?_, Ext.refl _, fun b o e => ?_, fun b o e => .inl e⟩
        · by_cases hbt : b = t
          · subst hbt; rw [upd_same] at e ⊢; exact e
          · rw [upd_ne hbt] at e ⊢; exact gg.keep b o hb nt e
        · have hbt : b ≠ t := fun z => by rw [z, upd_same] at e; cases e
          rw [upd_ne hbt] at e ⊢; exact gg.live b hb e
        · by_cases hbt : b = t
          · subst hbt; rw [upd_same] at e ⊢; exact e
          · rw [upd_ne hbt] at e ⊢; exact gg.fh b o e
      refine ⟨ax, C, dx, v0, t, [v1, v2], p, upd F2 t (.tup [v1, v2]), upd H2 t (.tup [v1, v2]), [x, y], d, w2, rfl, IO, by rw [upd_ne at_]; exact upd_same, g0'.fh, gt', pt, by rw [upd_ne at_]; exact hx, upd_same, .cons ((r1.mono g2.ff).mono g0'.ff) (.cons (r2.mono g0'.ff) .nil), e, fun F' H' vp g' pn' f' h' rp => ⟨rfl, ?_⟩⟩
      have ap := pen_ne pn' h' (fun xs z => nomatch z)
      have ef : Ext F' (upd F' ax (.ins C dx [(("word" : Str), v0), (("parts" : Str), vp)])) := ext_put f'
      have gq := g0'.trans g' pn'.no
      refine h2 (.ref ax) (upd F' ax (.ins C dx [(("word" : Str), v0), (("parts" : Str), vp)])) H' ⟨gq.keep, gq.live, gq.ff.trans ef, fun b o q => ?_, fun b o q => ?_⟩ (pn'.fix ap (fun _ z => nomatch z) f') ?_
      · by_cases hb : b = ax
        · subst hb; rw [upd_same] at q; rw [h']; exact q
        · rw [upd_ne hb] at q; exact g'.fh b o q
      · by_cases hb : b = ax
        · subst hb; exact .inr hx
        · rw [upd_ne hb] at q; exact gq.new b o q
      · exact .ins (fs := [(("word" : Str), v0), (("parts" : Str), vp)]) (dx := dx) (by rw [upd_same, hT]) (by rw [hn]; rfl) (.cons ((((r0.mono g1.ff).mono g2.ff).mono gq.ff).mono ef) (.cons (rp.mono ef) .nil))
    · exact h2.elim
end
end Rh
set_option Elab.async false
set_option linter.all false
set_option maxRecDepth 100000
set_option maxHeartbeats 2000000
/-! Rh: slices, repr, powers, calls by keywords. -/
namespace Rh
open PySem L2 PySem.Spec PyProof.Rows
/-! ### t[::-1] of a tuple -/
section
variable {prog : Program} {w : World} {A : Around} {E : Value → Shared → Prop} {s : Shared}
theorem rev_places (n : Nat) : Builtin.Slice.sliceAdjust none none (-1) (n : Int) = ((n : Int) - 1, -1) ∧ Builtin.Slice.slicePlaces ((n : Int) - 1) (-1) (-1) = n := by
  constructor
  · unfold Builtin.Slice.sliceAdjust
    simp
  · unfold Builtin.Slice.slicePlaces
    have h1 : ¬ ((-1 : Int) > 0) := by decide
    simp only [h1, if_false]
    split
    · have : ((n : Int) - 1 - -1 - -1 - 1) / (- -1) = (n : Int) := by
        rw [show (- -1 : Int) = 1 by decide, Int.ediv_one]; omega
      first
        | (rw [this]; simp)
        | simp
    · omega
theorem rev_pick (xs : Array Value) : ((List.range xs.size).filterMap fun (k : Nat) => xs[(((xs.size : Int) - 1) + (k : Int) * (-1)).toNat]?).toArray = xs.toList.reverse.toArray := by
  congr 1
  have key : ∀ n, n ≤ xs.size → ((List.range n).filterMap fun (k : Nat) => xs[(((xs.size : Int) - 1) + (k : Int) * (-1)).toNat]?) = (xs.toList.drop (xs.size - n)).reverse := by
    intro n
    induction n with
    | zero => intro _; simp [List.drop_eq_nil_of_le]
    | succ n ih =>
      intro hn
      rw [List.range_succ, List.filterMap_append, ih (by omega)]
      have e : (((xs.size : Int) - 1) + (n : Int) * (-1)).toNat = xs.size - (n + 1) := by omega
      have hl : xs.size - (n + 1) < xs.toList.length := by simp; omega
      rw [List.drop_eq_getElem_cons hl, List.reverse_cons]
      have e2 : xs.size - (n + 1) + 1 = xs.size - n := by omega
      rw [e2]
      simp only [List.filterMap_cons, List.filterMap_nil, e]
      rw [Array.getElem?_eq_getElem (by simpa using hl)]
      simp
  have := key xs.size (Nat.le_refl _)
  simpa using this
theorem getItem_tup_rev {t sl : Addr} {items : Array Value} {vs : Value} {Q : Value → Shared → Prop} (ht : IsTup s.heap t items) (hs : s.heap.IsSliceOf sl .none .none vs) (ps : IsPart vs (some (-1)))
    (h : Q (.ref s.heap.objs.size) { s with heap := s.heap.push { cls := .type "tuple", data := .seq items.toList.reverse.toArray } })
    (hsz : items.size ≤ sizeLine) : wpAny (model prog w) A (getItem (.ref t) (.ref sl)) Q E s := by
  have htake : sizeOk (.seq items.toList.reverse.toArray) := by
    show items.toList.reverse.toArray.size ≤ sizeLine
    simpa using hsz
  obtain ⟨os, hos, hcs, hds⟩ := id hs
  have hTs : s.TypeIs (.ref sl) "slice" := ⟨os, hos, hcs⟩
  unfold getItem
  try with_reducible refine wpAny_holding ?_
  first | refine wpAny_bind (wpAny_pure ?_) | skip
  refine wpAny_bind (wpAny_sequenceKey ht.typeIs (by decide) ?_)
  refine wpAny_bind (wpAny_callSpecial?_slot (name := Str.ofString "__getitem__") ht.typeIs PyProof.Rows.slot_tuple_getitem
    (wpAny_call_entry PyProof.Rows.slot_tuple_getitem ht.typeIs PyProof.Rows.entry_tuple_getitem ?_ (PyProof.Rows.args_tuple_getitem _ _)))
  show wpAny _ _ (Builtin.Tuple.tupleItemsOf (.ref t) >>= _) _ _ s
  refine wpAny_bind (PyProof.Rows.tupleItemsOf_ ht ?_)
  refine wpAny_bind (wpAny_typeOf hTs ?_)
  rw [if_pos (by decide)]
  refine wpAny_bind ?_
  unfold Builtin.Slice.sliceApplied Builtin.Slice.sliceFields
  refine wpAny_bind (wpAny_bind (wpAny_field hos hds (x := .none) rfl (wpAny_bind (wpAny_field hos hds (x := .none) rfl (wpAny_bind (wpAny_field hos hds (x := vs) rfl (wpAny_pure ?_)))))))
  refine wpAny_bind (HT.slicePart_ ps ?_)
  show wpAny _ _ (if ((-1 : Int) == 0) = true then _ else _) _ _ s
  rw [if_neg (by decide)]
  refine wpAny_bind (HT.slicePart_ .none (wpAny_bind (HT.slicePart_ .none (wpAny_bind (wpAny_pure ?_)))))
  obtain ⟨e1, e2⟩ := rev_places items.size
  show wpAny _ _ (match Builtin.Slice.sliceAdjust none none (-1) (items.size : Int) with | (lo, hi) => pure (lo, (-1 : Int), Builtin.Slice.slicePlaces lo hi (-1))) _ _ s
  rw [e1]
  show wpAny _ _ (pure (((items.size : Int) - 1), (-1 : Int), Builtin.Slice.slicePlaces ((items.size : Int) - 1) (-1) (-1))) _ _ s
  rw [e2]
  refine wpAny_pure ?_
  have hno : ¬ ((((items.size : Int) - 1) == 0 && (-1 : Int) == 1 && items.size == items.size) = true) := by simp
  show wpAny _ _ (if (((items.size : Int) - 1) == 0 && (-1 : Int) == 1 && items.size == items.size) = true then _ else _) _ _ s
  rw [if_neg hno, rev_pick]
  first
    | exact wpAny_bind (m := Builtin.Tuple.tupleExact _) (wpAny_newObj_type (wpAny_pure ⟨_, rfl, wpAny_pure h⟩) htake)
    | exact wpAny_bind (m := Builtin.Tuple.tupleExact _) (wpAny_newObj_type (wpAny_bind (wpAny_pure (wpAny_pure ⟨_, rfl, wpAny_pure h⟩))) htake)
    | exact wpAny_bind (wpAny_bind (m := Builtin.Tuple.tupleExact _) (wpAny_newObj_type (wpAny_pure (wpAny_pure ⟨_, rfl, wpAny_pure h⟩)) htake))
    | exact wpAny_bind (wpAny_bind (m := Builtin.Tuple.tupleExact _) (wpAny_newObj_type (wpAny_pure ⟨_, rfl, wpAny_pure h⟩) htake))
end
def tRevT (K : PySem.W.Frag) (te : TE) : TE := fun σ H Q => te σ H fun x H1 => ∃ a xs, x = .ref a ∧ SqT K H1 a xs ∧ ∀ p, H1 p = none → Q (.ref p) (upd H1 p (.tup xs.reverse))
theorem pe_revT {X : Cx} {e : Expr} {te : TE} {k : Nat} {p1 p2 p3 pos : Pos} (he : PE X e te) : PE X (.Subscript e (.Slice none none (some (.UnaryOp .USub (.Constant (.int 1) k p1) p2)) p3) pos) (tRevT X.K te) := by
  refine ⟨fun pins s σ H Q I h => ?_⟩
  refine Subscript_ (thn (he.run pins s σ H _ I h) fun v s1 ⟨x, H1, I1, r1, q1⟩ => ?_)
  obtain ⟨a, xs, ex, hx, q⟩ := q1
  subst ex
  cases r1
  have hst : PO X (some (.UnaryOp .USub (.Constant (.int 1) k p1) p2)) (L2.tPart (tUn (rU fun i => .int (-i)) (tC (.int 1)))) := po_some (pe_un un_neg pe_int)
  refine wpAny_Slice (thn (po_none.run pins s1 σ H1 (fun o H2 => o = none ∧ H2 = H1) I1 ⟨rfl, rfl⟩) fun vl s2 ⟨l, H2, I2, pl, el, e2⟩ => ?_)
  subst el e2
  refine thn (po_none.run pins s2 σ H2 (fun o H3 => o = none ∧ H3 = H2) I2 ⟨rfl, rfl⟩) fun vu s3 ⟨u, H3, I3, pu, eu, e3⟩ => ?_
  subst eu e3
  refine thn (hst.run pins s3 σ H3 (fun o H4 => o = some (-1) ∧ H4 = H3) I3 ⟨1, rfl, -1, rfl, rfl, rfl⟩) fun vs s4 ⟨o, H4, I4, ps, eo, e4⟩ => ?_
  subst eo e4
  have I5 : Inv X pins σ H4 { s4 with heap := s4.heap.push { cls := .type "slice", data := .fields #[vl, vu, vs] } } := I4.kept (t' := s4.toks) fun b ob q => Heap.get?_push_of_some _ q
  obtain ⟨its, r, ht, hz⟩ := I5.tuple hx
  have hlen := r.length
  cases pl
  cases pu
  show wpAny (model X.prog X.w) X.A (subscriptTail e (.Slice none none (some (.UnaryOp .USub (.Constant (.int 1) k p1) p2)) p3) (.ref a) (.ref s4.heap.objs.size)) (EP X pins σ Q) X.xe { s4 with heap := s4.heap.push { cls := .type "slice", data := .fields #[.none, .none, vs] } }
  refine tail_any (ops := [.ref a, .ref s4.heap.objs.size]) ht.typeIs (PyProof.Rows.slot_tuple_getitem.lookup) ?_ (by with_unfolding_all rfl)
  refine getItem_tup_rev ht (Heap.IsSliceOf.new _ .none .none vs) ps ?_ (by rw [List.size_toArray]; omega)
  refine ⟨.ref _, _, I5.laid (t' := s4.toks) (o := .tup xs.reverse) (fun b ob q => Heap.get?_push_of_some _ q) (Nat.le_refl _) ?_, rfl, q _ (I5.hok.fresh (Nat.le_refl _))⟩
  exact ⟨by rw [List.length_reverse]; exact hz, _, r.reverse, IsTup.new _ _⟩
def revF : D → Option D
  | .tup l => some (.tup l.reverse)
  | _ => none
def xrev (a : XF) : XF := fun σ w => bnd (a σ w) fun x w => opt (revF x) w
/-- l[lo:hi] of a list, by constants -/
def cutG {α : Type} (xs : List α) (lo hi : Option Int) : List α := (xs.drop (HT.sIx xs.length 0 lo)).take (HT.sIx xs.length xs.length hi - HT.sIx xs.length 0 lo)
def cutF (lo hi : Option Int) : D → Option D
  | .lst l => some (.lst (cutG l lo hi))
  | _ => none
def xcut (lo hi : Option Int) (a : XF) : XF := fun σ w => bnd (a σ w) fun x w => opt (cutF lo hi x) w
section
variable {K : PySem.W.Frag} {T : Tx} {p : Addr} {F : Hp}
theorem Rps.take : ∀ {vs : List V} {ds : List D} (n : Nat), Rps K T p F vs ds → Rps K T p F (vs.take n) (ds.take n)
  | _, _, 0, _ => .nil
  | _, _, n + 1, .nil => .nil
  | _, _, n + 1, .cons h r => .cons h (Rps.take n r)
theorem Rps.drop : ∀ {vs : List V} {ds : List D} (n : Nat), Rps K T p F vs ds → Rps K T p F (vs.drop n) (ds.drop n)
  | _, _, 0, h => h
  | _, _, n + 1, .nil => .nil
  | _, _, n + 1, .cons h r => Rps.drop n r
theorem Rps.reverse {vs : List V} {ds : List D} (h : Rps K T p F vs ds) : Rps K T p F vs.reverse ds.reverse := by
  cases h with
  | nil => exact .nil
  | cons h r =>
    rw [List.reverse_cons, List.reverse_cons]
    exact (Rps.reverse r).append (.cons h .nil)
termination_by vs.length
end
section
variable {X : Cx} {T : Tx} {W : XK} {pos p1 p2 p3 : Pos} {a : Expr} {fa : XF}
theorem x_rev {k : Nat} (ha : PE X a (tX X.K T W fa)) : PE X (.Subscript a (.Slice none none (some (.UnaryOp .USub (.Constant (.int 1) k p1) p2)) p3) pos) (tX X.K T W (xrev fa)) :=
  imE (pe_revT ha) fun σ H Q ⟨p, F, env, w, iv, h⟩ => by
    refine ⟨p, F, env, w, iv, Post.bind h fun x w1 v F1 H1 _ g1 pn1 rx h1 => ?_⟩
    obtain ⟨d, e, h2⟩ := Post.opt1 h1
    cases rx with
    | tup hq rs =>
      cases e
      exact ⟨_, _, rfl, g1.fh.t hq, fun q hq' => new_ok (α := Unit) h2 g1.fh pn1 hq' fun F' eF hF => .tup (SqT.of hF) (rs.reverse.mono eF)⟩
    | _ => cases e
theorem cut_ok {lo hi : Option Int} {tl th : TO} {el eh : Option Expr} (hl : PO X el tl) (hh : PO X eh th) (ql : ∀ σ H Q, Q lo H → tl σ H Q) (qh : ∀ σ H Q, Q hi H → th σ H Q) (ha : PE X a (tX X.K T W fa)) : PE X (.Subscript a (.Slice el eh none p2) pos) (tX X.K T W (xcut lo hi fa)) :=
  imE (pe_slice sl_list ha hl hh) fun σ H Q ⟨p, F, env, w, iv, h⟩ => by
    refine ⟨p, F, env, w, iv, Post.bind h fun x w1 v F1 H1 _ g1 pn1 rx h1 => ?_⟩
    obtain ⟨d, e, h2⟩ := Post.opt1 h1
    cases rx with
    | lst hq rs =>
      cases e
      refine ql _ _ _ (qh _ _ _ ⟨_, _, rfl, SqL.of (g1.fh _ _ hq), fun q hq' => new_ok (α := Unit) h2 g1.fh pn1 hq' fun F' eF hF => .lst hF ?_⟩)
      unfold cutG cutV
      rw [rs.length]
      exact ((rs.drop _).take _).mono eF
    | _ => cases e
theorem x_from {i : Int} {j : Nat} (ha : PE X a (tX X.K T W fa)) : PE X (.Subscript a (.Slice (some (.Constant (.int i) j p1)) none none p2) pos) (tX X.K T W (xcut (some i) none fa)) :=
  cut_ok (po_some pe_int) po_none (fun σ H Q q => ⟨i, rfl, q⟩) (fun σ H Q q => q) ha
theorem x_upto {i : Int} {j : Nat} (ha : PE X a (tX X.K T W fa)) : PE X (.Subscript a (.Slice none (some (.Constant (.int i) j p1)) none p2) pos) (tX X.K T W (xcut none (some i) fa)) :=
  cut_ok po_none (po_some pe_int) (fun σ H Q q => q) (fun σ H Q q => ⟨i, rfl, q⟩) ha
/-! ### a ** b -/
def powF : D → D → Option D
  | .int i, .int j => if decide (0 ≤ j) && decide (j ≤ 1000000) && decide (i.natAbs < 2 ^ 64) then some (.int (i ^ j.toNat)) else none
  | _, _ => none
def xpow (a b : XF) : XF := fun σ w => bnd (a σ w) fun x w => bnd (b σ w) fun y w => opt (powF x y) w
theorem byD_pow : ByD (rI CPow fun i j => V.int (i ^ j.toNat)) X.K T W powF := by
  intro p F H w x y a b d Q e pn rx ry h q
  cases rx with
  | int i =>
    cases ry with
    | int j =>
      simp only [powF] at h
      split at h
      · rename_i z
        cases h
        simp only [Bool.and_eq_true, decide_eq_true_eq] at z
        exact ⟨i, j, rfl, rfl, ⟨z.1.1, z.1.2, z.2⟩, q.here e pn (.int _)⟩
      · cases h
    | _ => simp [powF] at h
  | _ => simp [powF] at h
theorem x_pow {b : Expr} {fb : XF} (ha : PE X a (tX X.K T W fa)) (hb : PE X b (tX X.K T W fb)) : PE X (.BinOp a .Pow b pos) (tX X.K T W (xpow fa fb)) := imE (pe_op op_pow ha hb) (bin_of rfl rfl byD_pow)
end
end Rh
set_option Elab.async false
set_option linter.all false
set_option maxRecDepth 100000
set_option maxHeartbeats 2000000
/-! Rh: the pen; products of great numbers. -/
namespace Rh
open PySem L2 PySem.Spec PyProof.Rows
def penGet (n : Nat) (w : Pn) : Option D := match n with
  | 0 => some (.lst (w.cells.map .int))
  | 1 => some (.int w.at_)
  | 2 => some (.int w.rest)
  | _ => none
/-- pen[n] -/
def xpen (n : Nat) (a : XF) : XF := fun σ w => bnd (a σ w) fun x w => match x with
  | .pen => opt (penGet n w) w
  | _ => none
def penPut (n : Nat) (i : Int) (w : Pn) : Option Pn := match n with
  | 1 => some { w with at_ := i }
  | 2 => some { w with rest := i }
  | _ => none
/-- pen[n] = e -/
def spen (n : Nat) (a e : XF) : SF := fun σ w => bnd (e σ w) fun y w => bnd (a σ w) fun x w => match x, y with
  | .pen, .int i => (match penPut n i w with
    | some w => some (.ok (.nx σ) w)
    | none => none)
  | _, _ => none
/-- a product of great numbers -/
def bigOk (i j : Int) : Bool := decide (i.natAbs.log2 + j.natAbs.log2 < 100000000)
theorem bigOk_ok {i j : Int} (h : bigOk i j = true) : IntMulOk i j := by
  unfold bigOk at h
  have h := of_decide_eq_true h
  refine IntMulOk.of_le (m := i.natAbs.log2 + 1) (n := j.natAbs.log2 + 1) ?_ ?_ (by omega)
  · unfold Builtin.Int.intBits; split <;> omega
  · unfold Builtin.Int.intBits; split <;> omega
theorem op_mulB {X : Cx} : OpR X (binaryOp .Mult) (rI (fun i j => bigOk i j = true) fun i j => .int (i * j)) := opI fun _ _ _ _ _ _ _ hc q => mul_int q (bigOk_ok hc)
def bigF : D → D → Option D
  | .int i, .int j => if bigOk i j then some (.int (i * j)) else none
  | _, _ => none
def xbig (a b : XF) : XF := fun σ w => bnd (a σ w) fun x w => bnd (b σ w) fun y w => opt (bigF x y) w
section
variable {K : PySem.W.Frag} {T : Tx} {p : Addr} {F0 H0 F H : Hp} {w : Pn} {σ : L2.St} {env : En}
theorem Pen.set {c : Addr} {a r : Int} (P : Pen T p F H w) (h1 : H p = some (.lst [.ref c, .int w.at_, .int w.rest])) (h2 : F c = some (.lst (w.cells.map V.int))) : Pen T p F (upd H p (.lst [.ref c, .int a, .int r])) { w with at_ := a, rest := r } :=
  ⟨P.no, ⟨c, by rw [upd_same], h2⟩, P.ntb, tabs_put P.tabs h1⟩
theorem IVS.pen (iv : IVS K T p F0 H0 F H σ env w) {c : Addr} {a r : Int} (h1 : H p = some (.lst [.ref c, .int w.at_, .int w.rest])) (h2 : F c = some (.lst (w.cells.map V.int))) : IVS K T p F0 H0 F (upd H p (.lst [.ref c, .int a, .int r])) σ env { w with at_ := a, rest := r } := by
  have sub : Ext F (upd H p (.lst [.ref c, .int a, .int r])) := fun b o q => by
    rw [upd_ne (fun z => by rw [z, iv.iv.pen.no] at q; cases q)]; exact iv.iv.sub b o q
  refine ⟨⟨sub, iv.iv.pen.set h1 h2, iv.iv.len, iv.iv.val, fun i l e => ?_, iv.iv.apart⟩, ⟨fun b o hb nt q => ?_, fun b hb q => ?_, iv.gr.ff, sub, iv.gr.new⟩, iv.own⟩
  · obtain ⟨b, vs, g1, g2, g3, g4, g5⟩ := iv.iv.chg i l e
    exact ⟨b, vs, g1, by rw [upd_ne g4]; exact g2, g3, g4, g5⟩
  · rw [upd_ne hb]; exact iv.gr.keep b o hb nt q
  · rw [upd_ne hb] at q; exact iv.gr.live b hb q
end
section
variable {X : Cx} {T : Tx} {W : XK} {pos p1 p2 : Pos} {a b e : Expr} {fa fb fe : XF}
theorem byD_big : ByD (rI (fun i j => bigOk i j = true) fun i j => V.int (i * j)) X.K T W bigF := by
  intro p F H w x y a b d Q e pn rx ry h q
  cases rx with
  | int i =>
    cases ry with
    | int j =>
      simp only [bigF] at h
      split at h
      · rename_i z
        cases h
        exact ⟨i, j, rfl, rfl, z, q.here e pn (.int _)⟩
      · cases h
    | _ => simp [bigF] at h
  | _ => simp [bigF] at h
theorem x_big (ha : PE X a (tX X.K T W fa)) (hb : PE X b (tX X.K T W fb)) : PE X (.BinOp a .Mult b pos) (tX X.K T W (xbig fa fb)) := imE (pe_op op_mulB ha hb) (bin_of rfl rfl byD_big)
theorem x_pen {n : Nat} {k : Nat} (ha : PE X a (tX X.K T W fa)) (hs : PlainIx (.Constant (.int (n : Int)) k p1) := by exact fun _ _ => rfl) : PE X (.Subscript a (.Constant (.int (n : Int)) k p1) pos) (tX X.K T W (xpen n fa)) :=
  imE (pe_ix ix_list ha pe_int hs) fun σ H Q ⟨p, F, env, w, iv, h⟩ => by
    refine ⟨p, F, env, w, iv, Post.bind h fun x w1 v F1 H1 _ g1 pn1 rx h1 => ?_⟩
    cases rx with
    | pen =>
      obtain ⟨d, e, h2⟩ := Post.opt1 h1
      obtain ⟨c, e1, e2⟩ := pn1.at_
      match n, e with
      | 0, e =>
        cases e
        refine ⟨_, _, _, _, rfl, rfl, SqL.of e1, rfl, h2.here g1.fh pn1 (.lst e2 (Rps.ofInts _))⟩
      | 1, e =>
        cases e
        exact ⟨_, _, _, _, rfl, rfl, SqL.of e1, rfl, h2.here g1.fh pn1 (.int _)⟩
      | 2, e =>
        cases e
        exact ⟨_, _, _, _, rfl, rfl, SqL.of e1, rfl, h2.here g1.fh pn1 (.int _)⟩
      | n + 3, e => cases e
    | _ => exact h1.elim
theorem s_pen {n : Nat} {k : Nat} (ha : PE X a (tX X.K T W fa)) (he : PE X e (tX X.K T W fe))
    (hs : swapsWithSole [.Subscript a (.Constant (.int (n : Int)) k p1) p2] e pos.line X.env = pure false := by rfl) (hw : swappedStores [.Subscript a (.Constant (.int (n : Int)) k p1) p2] e X.env = pure none := by rfl)
    (h1 : (assignEach [.Subscript a (.Constant (.int (n : Int)) k p1) p2] X.env).map (·.2) = [assign (.Subscript a (.Constant (.int (n : Int)) k p1) p2) X.env] := by rfl)
    (hg : ∀ v, assign (.Subscript a (.Constant (.int (n : Int)) k p1) p2) X.env v = (do
      let ov ← holding [v] (eval a X.env)
      let iv ← holding [v, ov] (eval (.Constant (.int (n : Int)) k p1) X.env)
      standAt p2
      holding [v, ov, iv] (setItem ov iv v)
      release [v, ov, iv] []) := by intro _; rfl) : PS X (.Assign [.Subscript a (.Constant (.int (n : Int)) k p1) p2] e pos) (tS X.K T W (spen n fa fe)) :=
  imS (ps_asg he (pg_sub ha pe_int set_list hg) hs hw h1) fun D σ H ⟨p, F0, H0, F, env, w, iv, h⟩ => by
    refine ⟨p, F, env, w, iv.iv, PostS.bind iv h fun x1 w1 v1 F1 H1 _ g1 _ r1 iv1 h1 => ?_⟩
    refine ⟨p, F1, env, w1, iv1.iv, PostS.bind iv1 h1 fun x2 w2 v2 F2 H2 _ g2 pn2 r2 iv2 h2 => ?_⟩
    cases r2 with
    | pen =>
      cases r1 with
      | int i =>
        obtain ⟨c, e1, e2⟩ := pn2.at_
        match n, h2 with
        | 0, h2 => exact h2.elim
        | 1, h2 => exact ⟨_, _, _, _, rfl, rfl, e1, rfl, h2 _ _ _ (iv2.pen e1 e2)⟩
        | 2, h2 => exact ⟨_, _, _, _, rfl, rfl, e1, rfl, h2 _ _ _ (iv2.pen e1 e2)⟩
        | n + 3, h2 => exact h2.elim
      | _ => exact h2.elim
    | _ => exact h2.elim
end
end Rh
set_option Elab.async false
set_option linter.all false
set_option maxRecDepth 100000
set_option maxHeartbeats 2000000
/-! Rh: calls by keywords, calls with defaults. -/
namespace Rh
open PySem L2 PySem.Spec PyProof.Rows
/-- the keywords' values in the parameters' order -/
def turn2 {α : Type} (ws : List α) : List α := match ws with
  | [a, b] => [b, a]
  | _ => []
def turn3 {α : Type} (ws : List α) : List α := match ws with
  | [a, b, c] => [c, b, a]
  | _ => []
theorem turn2_vals {vs : List V} {us : List Value} (h : Vals vs us) : Vals (turn2 vs) (turn2 us) := by
  cases h with
  | nil => exact .nil
  | cons h1 h =>
    cases h with
    | nil => exact .nil
    | cons h2 h =>
      cases h with
      | nil => exact .cons h2 (.cons h1 .nil)
      | cons h3 h => exact .nil
theorem turn3_vals {vs : List V} {us : List Value} (h : Vals vs us) : Vals (turn3 vs) (turn3 us) := by
  cases h with
  | nil => exact .nil
  | cons h1 h =>
    cases h with
    | nil => exact .nil
    | cons h2 h =>
      cases h with
      | nil => exact .nil
      | cons h3 h =>
        cases h with
        | nil => exact .cons h3 (.cons h2 (.cons h1 .nil))
        | cons h4 h => exact .nil
theorem turn2_rps {K : PySem.W.Frag} {T : Tx} {p : Addr} {F : Hp} {vs : List V} {ds : List D} (h : Rps K T p F vs ds) : Rps K T p F (turn2 vs) (turn2 ds) := by
  cases h with
  | nil => exact .nil
  | cons h1 h =>
    cases h with
    | nil => exact .nil
    | cons h2 h =>
      cases h with
      | nil => exact .cons h2 (.cons h1 .nil)
      | cons h3 h => exact .nil
theorem turn3_rps {K : PySem.W.Frag} {T : Tx} {p : Addr} {F : Hp} {vs : List V} {ds : List D} (h : Rps K T p F vs ds) : Rps K T p F (turn3 vs) (turn3 ds) := by
  cases h with
  | nil => exact .nil
  | cons h1 h =>
    cases h with
    | nil => exact .nil
    | cons h2 h =>
      cases h with
      | nil => exact .nil
      | cons h3 h =>
        cases h with
        | nil => exact .cons h3 (.cons h2 (.cons h1 .nil))
        | cons h4 h => exact .nil
/-- how a call binds that gives all by keywords -/
structure KB0 (K : PySem.W.Frag) (fd : FuncData) (ps ks : List Str) (g : List Value → List Value) (gV : List V → List V) : Prop where
  to : ∀ (s : Shared) (ws : List Value), K.In s.heap → ws.length = ks.length → BindsTo s fd ⟨[], ks.zip ws⟩ (ps.zip (g ws))
  rel : ∀ {zs : List V} {ws : List Value}, Vals zs ws → Vals (gV zs) (g ws)
/-- a def that reckons f, called by keywords -/
structure FdK (P : Program) (w : World) (K : PySem.W.Frag) (mg : Str → Option Value) (base : Heap) (T : Tx) (k : Nat) (x : Str) (np : Nat) (g : FnF) (ks : List Str) (tr : {α : Type} → List α → List α) : Prop where
  ex : ∃ (f : Addr) (fd : FuncData) (ps : List Str), FnOk P w K mg base (L2.CX P w) k f fd ps (spF K T np g) ∧ mg x = some (.ref f) ∧ PySem.W.keepIn K (.ref f) = true ∧ KB0 K fd ps ks tr tr
  len : ∀ ds u, g ds u ≠ none → ds.length = np
  rps : ∀ {p : Addr} {F : Hp} {vs : List V} {ds : List D}, Rps K T p F vs ds → Rps K T p F (tr vs) (tr ds)
def xcallK0 (f : FnF) (tr : List D → List D) (n : Nat) (as : AF) : XF := fun σ w => bnd (as σ w) fun ds w => if ds.length = n then f (tr ds) w else none
def tK0 (sp : Sp) (gV : List V → List V) (n : Nat) (E : XK) (tk : TA) : TE := fun σ H Q => tk σ H fun zs H2 => zs.length = n ∧ sp (gV zs) H2 Q E
section
variable {X : Cx} {CX : CXT} {k : Nat} {f : Addr} {fd : FuncData} {ps ks : List Str} {sp : Sp} {E : XK} {x : Str} {p1 pos : Pos} {kws : List Keyword} {tk : TA} {g : List Value → List Value} {gV : List V → List V}
theorem run_k0 {pins : List (Addr × Obj)} {σ : L2.St} {H : Hp} {s : Shared} {Q : VK} {ws : List Value} {zs : List V} (F : FnOk X.prog X.w X.K X.mg X.base CX k f fd ps sp) (hr : Room k X.A) (hb : KB0 X.K fd ps ks g gV) (hx : Passes CX X E)
    (I : Inv X pins σ H s) (rz : Vals zs ws) (hl : zs.length = ks.length) (h : sp (gV zs) H Q E) : wpAny (model X.prog X.w) X.A (call (.ref f) [] (ks.zip ws)) (EP X pins σ Q) X.xe s := by
  refine wpAny_call (codeAny_mono (F.run X.A X.stack s H ⟨[], ks.zip ws⟩ (g ws) (gV zs) Q E hr I.env0 (hb.to s ws I.kIn (by rw [← rz.length]; exact hl)) (hb.rel rz) h) fun r s' hq => ?_)
  cases r with
  | error e => exact hx pins σ H s e s' I hq
  | ok fl =>
    cases fl with
    | ret u => exact I.after hq
    | next => exact False.elim hq
    | brk => exact False.elim hq
    | cont => exact False.elim hq
theorem pe_k0 (F : FnOk X.prog X.w X.K X.mg X.base CX k f fd ps sp) (hr : Room k X.A) (hg : Gl X x) (hm : X.mg x = some (.ref f)) (hk : PySem.W.keepIn X.K (.ref f) = true) (hb : KB0 X.K fd ps ks g gV) (hx : Passes CX X E)
    (hkw : PK X kws tk) (hall : (backToKw pos (keywordEach kws X.env)).all (·.1.isSome) = true := by rfl) (hks : (backToKw pos (keywordEach kws X.env)).filterMap (·.1) = ks := by rfl)
    (hdb : (x == ("__debug__" : Str)) = false := by decide)
    (hpl : ((backTo pos (starEach [] X.env)).any (·.1) || (backToKw pos (keywordEach kws X.env)).any (·.1.isNone)) = false := by rfl) :
    PE X (.Call (.Name x p1) [] kws pos) (tK0 sp gV ks.length E tk) := by
  refine ⟨fun pins s σ H Q I h => ?_⟩
  refine wpAny_Call_Name_kw (ld_glob I hg hm ?_ hdb)
  refine PySem.W.callWith_KW0 (h₀ := X.base) I.ok.mod.kin hk hall (thn (hkw.run pos pins s σ H _ I h) fun ws s2 ⟨zs, H2, I2, rz, hl, q2⟩ => ⟨I2.kIn, ?_⟩) hpl
  rw [hks]
  exact run_k0 F hr hb hx I2 rz hl q2
end
section
variable {X : Cx} {T : Tx} {W : XK} {x : Str} {np k k' : Nat} {g : FnF} {p1 pos kpos : Pos} {e : Expr} {kws : List Keyword} {fs : AF} {fe : XF} {ks : List Str} {tr : {α : Type} → List α → List α} {nm : Option Str}
/-- the values of the keywords -/
theorem k_nil : PK X [] (tA X.K T W anil) := ⟨fun pos pins s σ H Q I ⟨p, F, env, w, iv, h⟩ => (pk_nil (X := X)).run pos pins s σ H Q I (h.here iv.sub iv.pen .nil)⟩
theorem k_cons (ha : PE X e (tX X.K T W fe)) (hr : PK X kws (tA X.K T W fs)) : PK X (⟨nm, e, kpos⟩ :: kws) (tA X.K T W (acons fe fs)) :=
  ⟨fun pos pins s σ H Q I ⟨p, F, env, w, iv, h⟩ => (pk_cons ha hr).run pos pins s σ H Q I (by
    refine ⟨p, F, env, w, iv, Post.bind h fun x w1 v F1 H1 _ g1 pn1 rx h1 => ?_⟩
    refine ⟨p, F1, env, w1, iv.step g1 pn1, Post.bind h1 fun xs w2 vs F2 H2 _ g2 pn2 rs h2 => ?_⟩
    exact h2.here g2.fh pn2 (.cons (rx.mono g2.ff) rs))⟩
theorem x_callK (F : FdK X.prog X.w X.K X.mg X.base T k x np g ks tr) (hr : Room k' X.A) (hp : Passes (L2.CX X.prog X.w) X W) (ha : PK X kws (tA X.K T W fs)) (hk : k ≤ k' := by decide) (hg : Gl X x := by rfl)
    (hall : (backToKw pos (keywordEach kws X.env)).all (·.1.isSome) = true := by rfl) (hks : (backToKw pos (keywordEach kws X.env)).filterMap (·.1) = ks := by rfl)
    (hdb : (x == ("__debug__" : Str)) = false := by decide)
    (hpl : ((backTo pos (starEach [] X.env)).any (·.1) || (backToKw pos (keywordEach kws X.env)).any (·.1.isNone)) = false := by rfl) :
    PE X (.Call (.Name x p1) [] kws pos) (tX X.K T W (xcallK0 g tr ks.length fs)) := by
  obtain ⟨f, fd, ps, FO, hm, hkp, hb⟩ := F.ex
  refine imE (pe_k0 FO (hr.mono hk) hg hm hkp hb hp ha hall hks hdb hpl) fun σ H Q ⟨p, F1, env, w, iv, h⟩ => ?_
  refine ⟨p, F1, env, w, iv, Post.bind h fun ds w1 vs F2 H2 _ g2 pn2 rs h2 => ?_⟩
  split at h2
  · rename_i hn
    have rs' := F.rps rs
    exact ⟨by rw [rs.length]; exact hn, by rw [rs'.length]; exact F.len (tr ds) w1 (post_ne h2), p, F2, tr ds, w1, g2.fh, pn2, rs', h2⟩
  · exact h2.elim
end
section
variable {P : Program} {w : World} {K : PySem.W.Frag} {mg : Str → Option Value} {base : Heap} {T : Tx} {k np n : Nat} {body : SF}
theorem fdK_of {x qual : Str} {st : Stmt} {f : Addr} {fd : FuncData} {N ps ks : List Str} {tr : {α : Type} → List α → List α} (F : L2.Fun K x qual st f fd) (S : FnScope N ps (defScope st)) (hnp : ps.length = np) (hn : N.length = n)
    (hm : mg x = some (.ref f)) (hb : KB0 K fd ps ks tr tr) (hrp : ∀ {p : Addr} {F : Hp} {vs : List V} {ds : List D}, Rps K T p F vs ds → Rps K T p F (tr vs) (tr ds))
    (h : ∀ (cdv : Value) (A : Around) (outer : List Env) (s : Shared) (H : Hp) (E : XK), Room k (A.deeper (envOfC qual (defScope st) s.heap.objs.size f cdv)) →
      PSs (cxOf (L2.CX P w) P w K mg base N qual (defScope st) f cdv A outer s H E) (defBody st) (tS K T E body)) : FdK P w K mg base T (k + 1) x np (fnF np n body) ks tr :=
  ⟨⟨f, fd, ps, F.okX S (spF_len hnp) fun cdv A outer s H vs Q E hr hs => ⟨_, h cdv A outer s H E hr, fn_body hn hs⟩, hm, F.kp, hb⟩, fun ds u z => by
    unfold fnF at z
    split at z
    · assumption
    · exact absurd rfl z, hrp⟩
theorem kb_of {x qual : Str} {st : Stmt} {f : Addr} {fd : FuncData} {ps ks : List Str} {g : List Value → List Value} {gV : List V → List V} (F : L2.Fun K x qual st f fd)
    (h : ∀ (kV doc pm : Value) (an : Option Addr) (cdv ct : Value) (ws : List Value), ws.length = ks.length → bindArgs (PySem.W.fnOf x qual (defArgs st) (defBody st) (defScope st) .none kV doc pm an cdv ct) ⟨[], ks.zip ws⟩ = pure (ps.zip (g ws)))
    (rel : ∀ {zs : List V} {ws : List Value}, Vals zs ws → Vals (gV zs) (g ws)) : KB0 K fd ps ks g gV := by
  obtain ⟨oc, od, kV, doc, pm, an, cdv, ct, osl, rfl, lk, hcd⟩ := F.ex
  exact ⟨fun s ws _ hl => .of_eq (h kV doc pm an cdv ct ws hl), rel⟩
end
/-! ### defaults that are None -/
structure FdD (P : Program) (w : World) (K : PySem.W.Frag) (mg : Str → Option Value) (base : Heap) (T : Tx) (k : Nat) (x : Str) (np m : Nat) (g : FnF) : Prop where
  ex : ∃ (f : Addr) (fd : FuncData) (ps : List Str) (its : List Value), FnOk P w K mg base (L2.CX P w) k f fd ps (spF K T np g) ∧ mg x = some (.ref f) ∧ PySem.W.keepIn K (.ref f) = true ∧ Binds K fd ps its ∧ Vals (List.replicate m .non) its
  len : ∀ ds u, g ds u ≠ none → ds.length = np
section
variable {X : Cx} {T : Tx} {W : XK} {x : Str} {np k k' m : Nat} {g : FnF} {p1 pos : Pos} {e : Expr} {es : List Expr} {fs : AF}
def dflF (m : Nat) (g : FnF) : FnF := fun ds w => g (ds ++ List.replicate m .non) w
theorem rps_non {K : PySem.W.Frag} {p : Addr} {F : Hp} : ∀ m : Nat, Rps K T p F (List.replicate m .non) (List.replicate m .non)
  | 0 => .nil
  | m + 1 => .cons .non (rps_non m)
theorem x_callD (F : FdD X.prog X.w X.K X.mg X.base T k x np m g) (hr : Room k' X.A) (hp : Passes (L2.CX X.prog X.w) X W) (ha : PA X (e :: es) (tA X.K T W fs)) (hk : k ≤ k' := by decide) (hg : Gl X x := by rfl) (hdb : (x == ("__debug__" : Str)) = false := by decide)
    (he : starEach (e :: es) X.env = (false, eval e X.env) :: starEach es X.env := by rfl) (hpl : (backTo pos (starEach es X.env)).any (·.1) = false := by rfl) :
    PE X (.Call (.Name x p1) (e :: es) [] pos) (tX X.K T W (xcall (dflF m g) fs)) := by
  obtain ⟨f, fd, ps, its, FO, hm, hkp, hb, hv⟩ := F.ex
  refine imE (pe_call FO (hr.mono hk) hg hm hkp hb hv hp ha hdb he hpl) fun σ H Q ⟨p, F1, env, w, iv, h⟩ => ?_
  refine ⟨p, F1, env, w, iv, Post.bind h fun ds w1 vs F2 H2 _ g2 pn2 rs h2 => ?_⟩
  have r2 := rs.append (rps_non (K := X.K) (T := T) (p := p) (F := F2) m)
  refine ⟨?_, p, F2, _, w1, g2.fh, pn2, r2, h2⟩
  rw [r2.length]
  exact F.len _ w1 (post_ne h2)
end
end Rh
set_option Elab.async false
set_option linter.all false
set_option maxRecDepth 100000
set_option maxHeartbeats 2000000
/-! Rh: [y for row in .. for y in row]. -/
namespace Rh
open PySem L2 PySem.Spec PyProof.Rows
def flatL : List D → List D → Option (List D)
  | [], acc => some acc
  | d :: r, acc => match seqOf d with
    | some m => if small (acc.length + m.length) then flatL r (acc ++ m) else none
    | none => none
def xflat (i j : Nat) (s : AF) : XF := fun σ w => if i < σ.length ∧ j < σ.length then bnd (s σ w) fun l w => opt ((flatL l []).map .lst) w else none
section
variable {K : PySem.W.Frag} {T : Tx} {p A : Addr} {F1 H1 F2 H2 F4 H4 : Hp} {w2 w4 : Pn} {vs : List V} {acc : List D}
/-- a list that grows, behind a state in which it was new -/
structure AccSt (K : PySem.W.Frag) (T : Tx) (p A : Addr) (F1 H1 F H : Hp) (w : Pn) (vs : List V) (acc : List D) : Prop where
  gr : Grow p F1 (upd H1 A (.lst [])) F (upd H A (.lst []))
  sub : Ext F H
  pen : Pen T p F H w
  at_ : H A = some (.lst vs)
  no : F A = none
  rp : Rps K T p F vs acc
theorem AccSt.step (a : AccSt K T p A F1 H1 F2 H2 w2 vs acc) (hAp : A ≠ p) (g4 : Grow p F2 H2 F4 H4) (pn4 : Pen T p F4 H4 w4) : AccSt K T p A F1 H1 F4 H4 w4 vs acc := by
  have k4 : H4 A = some (.lst vs) := g4.keep _ _ hAp (nt_lst _) a.at_
  have n4 : F4 A = none := by
    cases z : F4 A with
    | none => rfl
    | some u =>
      rcases g4.new A u z with z' | z'
      · rw [a.no] at z'; cases z'
      · rw [a.at_] at z'; cases z'
  refine ⟨⟨fun b o hb nt e => ?_, fun b hb e => ?_, a.gr.ff.trans g4.ff, fun b o e => ?_, fun b o e => ?_⟩, g4.fh, pn4, k4, n4, a.rp.mono g4.ff⟩
  · by_cases hbA : b = A
    · subst hbA; rw [upd_same] at e ⊢; exact e
    · have := a.gr.keep b o hb nt e
      rw [upd_ne hbA] at this ⊢
      exact g4.keep b o hb nt this
  · have hbA : b ≠ A := fun z => by rw [z, upd_same] at e; cases e
    rw [upd_ne hbA] at e
    exact a.gr.live b hb (by rw [upd_ne hbA]; exact g4.live b hb e)
  · have hbA : b ≠ A := fun z => by rw [z, n4] at e; cases e
    rw [upd_ne hbA]; exact g4.fh b o e
  · rcases g4.new b o e with z | z
    · exact a.gr.new b o z
    · right
      by_cases hbA : b = A
      · subst hbA; rw [n4] at e; cases e
      · by_cases hbp : b = p
        · subst hbp; rw [pn4.no] at e; cases e
        · exact a.gr.live b hbp (by rw [upd_ne hbA]; exact z)
theorem AccSt.put (a : AccSt K T p A F1 H1 F2 H2 w2 vs acc) (hAp : A ≠ p) {vs' : List V} {acc' : List D} (r : Rps K T p F2 vs' acc') : AccSt K T p A F1 H1 F2 (upd H2 A (.lst vs')) w2 vs' acc' :=
  ⟨by rw [upd_upd]; exact a.gr, fun b o e => by rw [upd_ne (fun z => by rw [z, a.no] at e; cases e)]; exact a.sub b o e, a.pen.write a.at_ hAp, by rw [upd_same], a.no, r⟩
theorem AccSt.fin {α : Type} {R : V → α → Prop} {W : XK} (a : AccSt K T p A F1 H1 F2 H2 w2 vs acc) (hAp : A ≠ p) (hA : H1 A = none) (hF : F1 A = none) : ∃ F3, Grow p F1 H1 F3 H2 ∧ Pen T p F3 H2 w2 ∧ Rp K T p F3 (.ref A) (.lst acc) := by
  refine ⟨upd F2 A (.lst vs), ⟨fun b o hb nt e => ?_, fun b hb e => ?_, fun b o e => ?_, fun b o e => ?_, fun b o e => ?_⟩, a.pen.fix hAp (nt_lst _) a.no, .lst (by rw [upd_same]) (a.rp.mono ?_)⟩
  · have hbA : b ≠ A := fun z => by rw [z, hA] at e; cases e
    have := a.gr.keep b o hb nt (by rw [upd_ne hbA]; exact e)
    rw [upd_ne hbA] at this; exact this
  · have hbA : b ≠ A := fun z => by rw [z, a.at_] at e; cases e
    have := a.gr.live b hb (by rw [upd_ne hbA]; exact e)
    rw [upd_ne hbA] at this; exact this
  · rw [upd_ne (fun z => by rw [z, hF] at e; cases e)]; exact a.gr.ff b o e
  · by_cases hbA : b = A
    · subst hbA; rw [upd_same] at e; rw [a.at_]; exact e
    · rw [upd_ne hbA] at e; exact a.sub b o e
  · by_cases hbA : b = A
    · subst hbA; exact .inr hA
    · rw [upd_ne hbA] at e
      rcases a.gr.new b o e with z | z
      · exact .inl z
      · rw [upd_ne hbA] at z; exact .inr z
  · exact fun b o e => by rw [upd_ne (fun z => by rw [z, a.no] at e; cases e)]; exact e
end
section
variable {X : Cx} {T : Tx} {W : XK}
theorem flat_ok {own : List Nat} {i j : Nat} {fs : AF} {σ : L2.St} {H : Hp} {Q : V → Hp → Prop} (hi : i ∈ own) (hj : j ∈ own) (hij : i ≠ j)
    (h : tX X.K T W (xflat i j fs) σ H Q) : tLc2 (tI X.K T W fs) (gName i) tYes (iSeq X.K (tVar i)) (gName j) tYes (tVar j) own [j] σ H Q := by
  obtain ⟨p, F, env, w, iv, h⟩ := h
  unfold xflat at h
  split at h
  case isFalse => exact h.elim
  rename_i hlij
  have hli : i < σ.length := by rw [iv.len]; exact hlij.1
  have hlj : j < σ.length := by rw [iv.len]; exact hlij.2
  refine ⟨p, F, env, w, iv, Post.bind h fun l w1 J F1 H1 e1 g1 pn1 rJ h1 => ?_⟩
  intro A hA
  obtain ⟨dd, e, h1⟩ := Post.opt1 h1
  rw [Option.map_eq_some_iff] at e
  obtain ⟨fin, q, rfl⟩ := e
  have hF : F1 A = none := by
    cases z : F1 A with
    | none => rfl
    | some u => rw [g1.fh _ _ z] at hA; cases hA
  have hAp : A ≠ p := fun z => by obtain ⟨c, hc, _⟩ := pn1.at_; rw [z, hc] at hA; cases hA
  have sub0 : Ext F1 (upd H1 A (.lst [])) := g1.fh.trans (ext_put hA)
  refine ⟨fun i m H => m = l.length - i ∧ i ≤ l.length ∧ ∃ F2 w2 acc vs, w2 = w1 ∧ AccSt X.K T p A F1 H1 F2 H w2 vs acc ∧ flatL (l.drop i) acc = some fin,
    ⟨l.length, rfl, Nat.zero_le _, F1, w1, [], [], rfl, ⟨?_, sub0, pn1.lay hA, by rw [upd_same], hF, .nil⟩, q⟩, ?_⟩
  · rw [upd_upd]; exact Grow.refl sub0
  rintro n m H2 ⟨rfl, hn, F2, w2, acc, vs, rfl, a2, q2⟩
  by_cases hlt : n < l.length
  · refine .inr ⟨rJ.go n F2 H2 a2.gr.ff a2.sub hlt, fun H3 => ∃ F3 w3 acc' vs', w3 = w2 ∧ AccSt X.K T p A F1 H1 F3 H3 w3 vs' acc' ∧ flatL (l.drop (n + 1)) acc' = some fin, fun H3 z => ⟨l.length - (n + 1), by omega, rfl, hlt, z⟩, fun x H3 y => ?_⟩
    obtain ⟨d, F3, e3, r3, g3, pn3⟩ := rJ.yld n F2 H2 w2 x H3 a2.gr.ff a2.sub a2.pen hlt y
    have ed : l.drop n = d :: l.drop (n + 1) := by
      rw [List.drop_eq_getElem_cons hlt]
      rw [List.getElem?_eq_getElem hlt] at e3
      cases e3; rfl
    rw [ed] at q2
    unfold flatL at q2
    have a3 := a2.step hAp g3 pn3
    cases q3 : seqOf d with
    | none => rw [q3] at q2; cases q2
    | some ms =>
      rw [q3] at q2
      simp only at q2
      split at q2
      · rename_i hsm
        simp only [small, decide_eq_true_eq] at hsm
        refine ⟨wipe_set _ _ hi |>.trans (wipe_idem _ _), ?_⟩
        show tYes _ _ _
        unfold tYes
        simp only [if_true]
        have hl0 : (L2.wipe σ own).length = σ.length := wipe_length _ _
        -- the walk of the row
        have turn : ∀ (a : Addr) (J1 : It), ((∀ (k : Nat) (H : Hp), Ext F3 H → k < ms.length → J1.go k H) ∧ (∀ H : Hp, Ext F3 H → J1.stop ms.length H) ∧ (∀ (k : Nat) (H : Hp) (x : V) (H' : Hp), Ext F3 H → J1.yld k H x H' → H' = H ∧ ∃ d, ms[k]? = some d ∧ Rp X.K T p F3 x d)) →
            ∃ W1 : Nat → Nat → Hp → Prop, (∃ m, W1 0 m H3) ∧ ∀ j' k H, W1 j' k H →
              (J1.stop j' H ∧ ∃ F3 w3 acc' vs', w3 = w2 ∧ AccSt X.K T p A F1 H1 F3 H w3 vs' acc' ∧ flatL (l.drop (n + 1)) acc' = some fin) ∨ (J1.go j' H ∧ ∃ Nx1 : Hp → Prop, (∀ H', Nx1 H' → ∃ k', k' < k ∧ W1 (j' + 1) k' H') ∧ ∀ x H', J1.yld j' H x H' → gName j x (L2.wipe ((L2.wipe σ own).set i (some (.ref a))) [j]) H' fun σ3 H5 => L2.wipe σ3 [j] = L2.wipe ((L2.wipe σ own).set i (some (.ref a))) [j] ∧ tYes σ3 H5 fun b H6 =>
                if b = true then tVar j σ3 H6 fun y H7 => ∃ acc, H7 A = some (.lst acc) ∧ acc.length < sizeLine ∧ Nx1 (upd H7 A (.lst (acc ++ [y]))) else Nx1 H6) := by
          rintro a J1 ⟨jgo, jstop, jyld⟩
          refine ⟨fun j' k H => k = ms.length - j' ∧ j' ≤ ms.length ∧ ∃ vs', AccSt X.K T p A F1 H1 F3 H w2 vs' (acc ++ ms.take j'), ⟨ms.length, rfl, Nat.zero_le _, vs, by simpa using a3⟩, ?_⟩
          rintro j' k H ⟨rfl, hj', vs', a4⟩
          by_cases hl1 : j' < ms.length
          · refine .inr ⟨jgo j' H a4.sub hl1, fun H' => ∃ vs', AccSt X.K T p A F1 H1 F3 H' w2 vs' (acc ++ ms.take (j' + 1)), fun H' z => ⟨ms.length - (j' + 1), by omega, rfl, hl1, z⟩, fun x H' y => ?_⟩
            obtain ⟨rfl, dx, ex, rx⟩ := jyld j' H x H' a4.sub y
            refine ⟨by rw [wipe_set _ _ (by simp), wipe_idem], ?_⟩
            show tYes _ _ _
            unfold tYes
            simp only [if_true]
            refine ⟨x, ?_, vs', a4.at_, ?_, _, a4.put hAp ?_⟩
            · rw [List.getElem?_set_self]
              rw [wipe_length, List.length_set, hl0]; exact hlj
            · have := a4.rp.length
              rw [List.length_append, List.length_take] at this
              omega
            · have : acc ++ ms.take (j' + 1) = (acc ++ ms.take j') ++ [dx] := by
                rw [List.append_assoc]
                congr 1
                rw [List.take_succ, ex]; rfl
              rw [this]
              exact a4.rp.append (.cons rx .nil)
          · have e : j' = ms.length := by omega
            subst e
            rw [List.take_length] at a4
            exact .inl ⟨jstop H a4.sub, F3, w2, _, vs', rfl, a4, q2⟩
        have at_ : ∀ a : Addr, ((L2.wipe σ own).set i (some (.ref a)))[i]? = some (some (.ref a)) := fun a => by
          rw [List.getElem?_set_self]
          rw [hl0]; exact hli
        cases r3 with
        | tup h3 rs =>
          cases q3
          refine ⟨_, at_ _, _, rfl, .inr ⟨⟨_, a3.sub.t h3⟩, turn _ _ ⟨fun k H e1 hk => ?_, fun H e1 => ?_, fun k H x H' e1 y => ?_⟩⟩⟩
          · obtain ⟨v, g1, g2⟩ := rs.get (List.getElem?_eq_getElem hk)
            exact ⟨_, v, e1.t h3, g1⟩
          · exact ⟨_, e1.t h3, by rw [rs.length]; exact Nat.le_refl _⟩
          · obtain ⟨rfl, y⟩ := y
            obtain ⟨d, g1, g2⟩ := rs.getV (y _ (e1.t h3))
            exact ⟨rfl, d, g1, g2⟩
        | lst h3 rs =>
          cases q3
          refine ⟨_, at_ _, _, rfl, .inl ⟨⟨_, SqL.of (a3.sub _ _ h3)⟩, turn _ _ ⟨fun k H e1 hk => ?_, fun H e1 => ?_, fun k H x H' e1 y => ?_⟩⟩⟩
          · obtain ⟨v, g1, g2⟩ := rs.get (List.getElem?_eq_getElem hk)
            exact ⟨_, v, SqL.of (e1 _ _ h3), g1⟩
          · exact ⟨_, SqL.of (e1 _ _ h3), by rw [rs.length]; exact Nat.le_refl _⟩
          · obtain ⟨rfl, y⟩ := y
            obtain ⟨d, g1, g2⟩ := rs.getV (y _ (SqL.of (e1 _ _ h3)))
            exact ⟨rfl, d, g1, g2⟩
        | _ => simp [seqOf] at q3
      · cases q2
  · have e : n = l.length := by omega
    subst e
    rw [List.drop_length] at q2
    unfold flatL at q2
    cases q2
    obtain ⟨F3, g3, p3, r3⟩ := a2.fin (α := Unit) (R := fun _ _ => True) (W := W) hAp hA hF
    exact .inl ⟨rJ.stop F2 H2 a2.gr.ff a2.sub, h1 _ _ _ g3 p3 r3⟩
theorem x_flat (i j : Nat) {y r : Str} {p1 p2 p3 p4 pos : Pos} {iter : Expr} {scope : Scope} {own : List (Str × Nat)} {fs : AF} (hc : X.calm = true) (hN : X.N.Nodup) (hi : PI X (.Name r p1) iter (tI X.K T W fs)) (ok : BlkOk X.N X.env.scope scope own) (hio : i ∈ own.map (·.2)) (hjo : j ∈ own.map (·.2)) (hij : i ≠ j)
    (hg : ∀ (s : Shared) (H : Hp) (C : Addr) (cl : List (Str × Addr)) (fp : List Addr), PG (X.blk s H scope (compEnvC scope cl C X.env) fp) (.Name r p1) (gName i))
    (hi1 : ∀ (s : Shared) (H : Hp) (C : Addr) (cl : List (Str × Addr)) (fp : List Addr), PE (X.blk s H scope (compEnvC scope cl C X.env) fp) (.Name r p3) (tVar i))
    (hg1 : ∀ (s : Shared) (H : Hp) (C : Addr) (cl : List (Str × Addr)) (fp : List Addr), PG (X.blk s H scope (compEnvC scope cl C X.env) fp) (.Name y p2) (gName j))
    (he : ∀ (s : Shared) (H : Hp) (C : Addr) (cl : List (Str × Addr)) (fp : List Addr), PE (X.blk s H scope (compEnvC scope cl C X.env) fp) (.Name y p4) (tVar j))
    (hs : ∀ x, foldedSetIterable iter X.env x = pure x := by intro _; rfl) (hs1 : ∀ env x, foldedSetIterable (.Name r p3) env x = pure x := by intro _ _; rfl) :
    PE X (.ListComp (.Name y p4) [⟨.Name r p1, iter, [], 0⟩, ⟨.Name y p2, .Name r p3, [], 0⟩] scope pos) (tX X.K T W (xflat i j fs)) :=
  imE (pe_lc2 (vs1 := [j]) hc hN hi ok (fun k hk => by
    have e : k = j := by simpa using hk
    rw [e]; exact hjo) hg (fun _ _ _ _ _ => pts_nil) (fun s H C cl fp => pi_seq (hi1 s H C cl fp)) hg1 (fun _ _ _ _ _ => pts_nil) he hs hs1) fun σ H Q h => flat_ok hio hjo hij h
end
end Rh
set_option Elab.async false
set_option linter.all false
set_option maxRecDepth 100000
set_option maxHeartbeats 4000000
/-! Rh: len(set(rows)) of a tuple of rows of whole numbers. -/
namespace Rh
open PySem L2 PySem.Spec PyProof.Rows PySem.SeqAt
/-- a new set, and how it is walked into -/
def set0 (w : World) : Obj := { cls := .type "set", dict := none, data := .set #[] 0 (.fresh 0 0 (!w.params.followText "set-order")) }
section
variable {P : Program} {w : World} {A : Around} {E : Value → Shared → Prop} {s : Shared} {l : Addr} {items : Array Value} {ks : List (Addr × List Int)}
theorem row_at (hit : items.toList = ks.map fun p => Value.ref p.1) (i : Nat) (v : Value) (h : items[i]? = some v) : ∃ p, ks[i]? = some p ∧ v = .ref p.1 := by
  have q : (ks.map fun p => Value.ref p.1)[i]? = some v := by rw [← hit, Array.getElem?_toList]; exact h
  rw [List.getElem?_map, Option.map_eq_some_iff] at q
  obtain ⟨p, e, rfl⟩ := q
  exact ⟨p, e, rfl⟩
theorem beyond {h : Heap} {b : Addr} (hb : h.objs.size ≤ b) : h.get? b = none := by
  rcases q : h.get? b with _ | o
  · rfl
  · exact absurd (Nat.lt_of_lt_of_le (Heap.lt_size q) hb) (Nat.lt_irrefl _)
set_option maxHeartbeats 4000000 in
/-- set.__init__ puts the rows of a tuple into the set that was made last -/
theorem fill_rows {R : PySem.Fin → Shared → Prop} (hh : A.handled = none) (hl : s.heap.IsTuple l items) (hit : items.toList = ks.map fun p => Value.ref p.1) (hk : ∀ p ∈ ks, IsT P w s.heap p.2 p.1) (hfew : ks.length < 64)
    (q : ∀ (h' : Heap) (tk : Nat) L es ep t, SetTR P w h' s.heap.objs.size L es ep t → Got ks ks.length L → (∀ b o, s.heap.get? b = some o → h'.get? b = some o) → R (.done (.ret .none)) { s with heap := h', toks := tk }) (hu1 : A.in1.units < cLine) :
    wpAny (model P w) A (Builtin.«set.__init__» ⟨[.ref s.heap.objs.size, .ref l], []⟩) R E { s with heap := s.heap.push (set0 w) } := by
  have hlt : l < s.heap.objs.size := Heap.lt_size hl.choose_spec.1
  have hnew : (s.heap.push (set0 w)).get? s.heap.objs.size = some (set0 w) := Heap.get?_push_size _ rfl
  have hz : (s.heap.push (set0 w)).objs.size = s.heap.objs.size + 1 := Heap.size_push ..
  have ht : (s.heap.push (set0 w)).IsTuple l items := hl.push _
  have hn : items.size = ks.length := by rw [← Array.length_toList, hit, List.length_map]
  have subs := F.sub_tuple_set
  have subf := F.sub_tuple_frozenset
  have nodict : (Value.type "tuple" == Value.type "dict") = false := by decide
  obtain ⟨o, ho, hc, n, hd⟩ := id ht
  obtain ⟨ocls, odict, odata, oslots⟩ := o
  simp only at hc hd
  subst hc hd
  unfold Builtin.«set.__init__» noKeywords Builtin.Frozenset.updateFrom
  generalize hPI : pyIter = PI
  wp_walk
  subst hPI
  refine wpAny_pyIter_tuple ht (wpAny_bind (wpAny_runValue ?_))
  have n1 : l ≠ (s.heap.push (set0 w)).objs.size := fun z => by rw [z, hz] at hlt; exact absurd hlt (Nat.not_lt.mpr (Nat.le_succ _))
  have n2 : s.heap.objs.size ∉ [(s.heap.push (set0 w)).objs.size, l] := fun z => by
    rcases List.mem_cons.mp z with z | z
    · exact absurd (z.trans hz) (Nat.ne_of_lt (Nat.lt_succ_self _))
    · exact absurd (List.mem_singleton.mp z).symm (Nat.ne_of_lt hlt)
  have n3 : ∀ b ∈ [(s.heap.push (set0 w)).objs.size], s.heap.get? b = none := fun b hb => beyond (by rw [List.mem_singleton.mp hb, hz]; exact Nat.le_succ _)
  refine set_update_tups (A := A) ((Walks.tuple (A := A.in1) (by simp [hh]) _ l n1 items).toS) s.heap.objs.size n2 ks hn hfew (row_at hit) s.heap hk (beyond (Nat.le_refl _)) n3 hu1 _ 0 _ rfl (Nat.zero_le _)
    ?g1 ?g2 ⟨[], #[], 0, .fresh 0 0 (!w.params.followText "set-order"), ?g3, Got.zero ks⟩ ?g4
  case g1 => exact ⟨⟨_, Heap.get?_push_size _ rfl, rfl, rfl⟩, ht.push _⟩
  case g2 => exact fun b o e => Heap.get?_push_of_some _ (Heap.get?_push_of_some _ e)
  case g3 => exact setTR_fresh (Heap.get?_push_of_some _ hnew)
  intro s' L es ep t hm hS g hkp
  rcases s' with ⟨h', g2, d2, tk, os2⟩
  have e1 : g2 = s.gens := hm.gens
  have e2 : d2 = s.drawn := hm.drawn
  have e3 : os2 = s.os := hm.os
  subst e1 e2 e3
  rw [hn] at g
  exact wpAny_pure (wpAny_pure (q h' tk L es ep t hS g hkp))
/-- set(rows): the set's object, its keys among the rows -/
theorem call_set_rows {Q : Value → Shared → Prop} (hh : A.handled = none) (hl : s.heap.IsTuple l items) (hit : items.toList = ks.map fun p => Value.ref p.1) (hk : ∀ p ∈ ks, IsT P w s.heap p.2 p.1) (hfew : ks.length < 64) (hu : A.units + 9 < cLine)
    (q : ∀ (h' : Heap) (tk : Nat) L es ep t, SetTR P w h' s.heap.objs.size L es ep t → Got ks ks.length L → (∀ b o, s.heap.get? b = some o → h'.get? b = some o) → Q (.ref s.heap.objs.size) { s with heap := h', toks := tk }) :
    wpAny (model P w) A (call (.type "set") [.ref l]) Q E s := by
  have ft := F.called_set
  have ⟨c, tl, f1⟩ := ft.mro
  have f2 := ft.made
  have f3 := ft.sub
  have f4 := ft.notType
  have f5 := ft.canCreate
  have f6 := F.typeCall_set_1 (.ref l)
  refine wpAny_call (codeAny_of_tree (?_ : wpAny _ _ (callAny (.type "set") _) _ _ _))
  refine wpAny_pure (And.intro (Code.quiet_builtin _ (by decide +kernel)) (codeAny_builtin F.entry_type_call ?_))
  rw [Around.under_plain (weight_type_call_type "set" [.ref l] []) rfl]
  repeat (any_goals (first | assumption | wp_step))
  refine codeAny_mono (code_set_led1 (.ref l) (E := E) (Q₁ := fun v s1 => v = .ref s.heap.objs.size ∧ s1 = { s with heap := s.heap.push (set0 w) }) ⟨rfl, rfl⟩) ?_
  rintro (e | (v | _ | _ | _)) s1 hr
  case error => exact hr
  all_goals try exact hr.elim
  obtain ⟨rfl, rfl⟩ := hr
  have hT : Shared.TypeIs { s with heap := s.heap.push (set0 w) } (.ref s.heap.objs.size) "set" := ⟨set0 w, Heap.get?_push_size _ rfl, rfl⟩
  have f7 := ft.init.lookup
  have f8 := ft.init.bind (.ref s.heap.objs.size)
  repeat (any_goals (first | assumption | wp_step))
  refine codeAny_mono (codeAny_call_builtin (R := wants (fun r s2 => r = .none ∧ Q (.ref s.heap.objs.size) s2) E) ft.init.plain F.entry_set_init (check_set_init_1 hT (fill_rows (by simp [hh]) hl hit hk hfew (fun h' tk L es ep t a b c => ⟨rfl, q h' tk L es ep t a b c⟩) ?_))) ?_
  · show A.units + 1 + 1 + 1 < cLine
    omega
  rintro (e | (v | _ | _ | _)) s2 hr
  case error => exact hr
  all_goals try exact hr.elim
  obtain ⟨rfl, hq⟩ := hr
  repeat (any_goals (first | assumption | wp_step))
end
end Rh
set_option Elab.async false
set_option linter.all false
set_option maxRecDepth 100000
set_option maxHeartbeats 4000000
/-! Rh: len(set(rows)) by data. -/
namespace Rh
open PySem L2 PySem.Spec PyProof.Rows PySem.SeqAt
/-- how many different ones -/
def distN : List (List Int) → Nat
  | [] => 0
  | a :: r => if a ∈ r then distN r else distN r + 1
theorem distN_eq : ∀ (rows L : List (List Int)), L.Nodup → (∀ x, x ∈ L ↔ x ∈ rows) → L.length = distN rows
  | [], L, _, h => by
    cases L with
    | nil => rfl
    | cons a L => exact absurd ((h a).mp List.mem_cons_self) (by simp)
  | a :: r, L, n, h => by
    unfold distN
    by_cases c : a ∈ r
    · rw [if_pos c]
      refine distN_eq r L n fun x => ?_
      rw [h x, List.mem_cons]
      exact ⟨fun z => z.elim (fun e => e ▸ c) id, .inr⟩
    · rw [if_neg c]
      have ha : a ∈ L := (h a).mpr List.mem_cons_self
      have ih := distN_eq r (L.erase a) (n.erase a) fun x => by
        rw [n.mem_erase_iff, h x, List.mem_cons]
        exact ⟨fun ⟨n1, z⟩ => z.elim (fun e => absurd e n1) id, fun z => ⟨fun e => c (e ▸ z), .inr z⟩⟩
      rw [List.length_erase_of_mem ha] at ih
      have : 0 < L.length := List.length_pos_of_mem ha
      omega
/-- it is the number of all exactly if they differ -/
theorem distN_le : ∀ rows : List (List Int), distN rows ≤ rows.length
  | [] => Nat.le_refl _
  | a :: r => by
    unfold distN
    have := distN_le r
    split <;> simp <;> omega
theorem distN_nodup : ∀ rows : List (List Int), rows.Nodup → distN rows = rows.length
  | [], _ => rfl
  | a :: r, h => by
    unfold distN
    rw [List.nodup_cons] at h
    rw [if_neg h.1, distN_nodup r h.2]; rfl
theorem distN_dup : ∀ rows : List (List Int), ¬ rows.Nodup → distN rows < rows.length
  | [], h => absurd List.nodup_nil h
  | a :: r, h => by
    unfold distN
    rw [List.nodup_cons] at h
    by_cases c : a ∈ r
    · rw [if_pos c]; have := distN_le r; simp; omega
    · rw [if_neg c]
      have := distN_dup r fun z => h ⟨c, z⟩
      simp; omega
def lenSetF : D → Option D
  | .tup l => (match Rh.rowsOf l with
    | some rows => if rows.length < 64 then some (.int (distN rows : Nat)) else none
    | none => none)
  | _ => none
def xlenSet (a : XF) : XF := fun σ w => bnd (a σ w) fun x w => opt (lenSetF x) w
section
variable {X : Cx}
def rSetRows (K : PySem.W.Frag) (P : Program) (w : World) : List V → Hp → VK → Prop := fun xs H Q => ∃ (l : Addr) (ks : List (Addr × List Int)), xs = [V.ref l] ∧ SqT K H l (ks.map fun p => V.ref p.1) ∧ (∀ p ∈ ks, SqT K H p.1 (p.2.map V.int)) ∧ ks.length < 64 ∧
  ∀ a L, H a = none → (∀ p ∈ L, p ∈ ks) → (∀ p ∈ ks, p.2 ∈ L.map (·.2)) → (L.map (·.2)).Nodup → Q (.ref a) (upd H a (SetTO P w a L))
theorem cr_setRows (hc : X.calm = true) (hu : X.A.units + 64 < cLine) : CallR X (.type "set") (rSetRows X.K X.prog X.w) := by
  rintro pins s σ H xs us Q I r ⟨l, ks, rfl, hl, hk, hf, q⟩
  obtain ⟨its, rv, pl, hz⟩ := I.tuple hl
  rw [Vals.ref1 r]
  refine call_set_rows (ks := ks) (I.ok.hd hc) pl (by simpa using refs_of_vals rv) (fun p hp => I.isT (hk p hp)) hf (by omega) fun h' tk L es ep t R g k => ?_
  have n : H s.heap.objs.size = none := I.hok.fresh (Nat.le_refl _)
  exact ⟨.ref s.heap.objs.size, _, I.laid (t' := tk) k (Nat.le_refl _) (setTO_new R.t0), rfl, q _ L n (fun p hp => List.mem_of_mem_take (g.sub p hp)) (fun p hp => g.all p (by rw [List.take_length]; exact hp)) R.nd⟩
def rLenRows (K : PySem.W.Frag) (P : Program) (w : World) : List V → Hp → VK → Prop := fun xs H Q => ∃ (a : Addr) (L : List (Addr × List Int)), xs = [V.ref a] ∧ H a = some (SetTO P w a L) ∧ (∀ p ∈ L, SqT K H p.1 (p.2.map V.int)) ∧ Q (.int L.length) H
theorem cr_lenRows : CallR X (.builtin "len") (rLenRows X.K X.prog X.w) := by
  rintro pins s σ H xs us Q I r ⟨a, L, rfl, ha, hk, q⟩
  have R0 : SetT0 X.prog X.w s.heap a L := (I.hok a _ ha).1
  obtain ⟨es, ep, t, R⟩ := R0.full fun p hp => I.isT (hk p hp)
  obtain ⟨o, ho, hex, hd⟩ := R.ob
  have hz := R.size
  have hf := R.few
  rw [Vals.ref1 r]
  refine call_len_set ho hex hd R.fits (by omega) ?_
  refine ⟨.int L.length, H, I.tok (s.toks + 1 + 1), ⟨s.toks + 1, by rw [hz]⟩, q⟩
/-- rows of whole numbers in the heap -/
theorem Rps.rows {K : PySem.W.Frag} {T : Tx} {p : Addr} {F : Hp} : ∀ {vs : List V} {ds : List D} {rows : List (List Int)}, Rps K T p F vs ds → Rh.rowsOf ds = some rows → ∃ ks : List (Addr × List Int), vs = ks.map (fun q => V.ref q.1) ∧ ks.map (·.2) = rows ∧ ∀ q ∈ ks, SqT K F q.1 (q.2.map V.int)
  | _, _, _, .nil, e => by cases e; exact ⟨[], rfl, rfl, fun _ z => nomatch z⟩
  | _, _, _, .cons h r, e => by
    cases h with
    | tup h1 r1 =>
      rename_i a xs l
      simp only [Rh.rowsOf] at e
      cases q : intsOf l with
      | none => rw [q] at e; cases e
      | some x =>
        rw [q] at e
        simp only [Option.map_eq_some_iff] at e
        obtain ⟨rs, e1, rfl⟩ := e
        obtain ⟨ks, h3, h4, h5⟩ := Rps.rows r e1
        refine ⟨(a, x) :: ks, by rw [h3]; rfl, by rw [← h4]; rfl, fun z hz => ?_⟩
        rcases List.mem_cons.mp hz with z1 | z1
        · rw [z1]
          have := Rps.ints r1 q
          rw [this] at h1
          exact h1
        · exact h5 z z1
    | _ => simp [Rh.rowsOf] at e
end
section
variable {X : Cx} {T : Tx} {W : XK} {pos pos2 p1 p2 : Pos} {a : Expr} {fa : XF}
theorem x_lenSet (hc : X.calm = true) (hu : X.A.units + 64 < cLine) (hm : X.mg "len" = none) (hm2 : X.mg "set" = none) (ha : PE X a (tX X.K T W fa)) (hg : Gl X "len" := by rfl) (hg2 : Gl X "set" := by rfl)
    (hs : starEach (a :: []) X.env = (false, eval a X.env) :: starEach [] X.env := by rfl) (hs2 : starEach (.Call (.Name "set" p2) [a] [] pos2 :: []) X.env = (false, eval (.Call (.Name "set" p2) [a] [] pos2) X.env) :: starEach [] X.env := by rfl) :
    PE X (.Call (.Name "len" p1) [.Call (.Name "set" p2) [a] [] pos2] [] pos) (tX X.K T W (xlenSet fa)) :=
  imE (pe_callB cr_lenRows hg hm PySem.boot_len (pa_cons (pe_callTy (cr_setRows hc hu) hg2 hm2 boot_set (pa_cons ha pa_nil hs) (by decide) (by decide) hs (by rfl)) pa_nil hs2) (by decide) (by decide) hs2 (by rfl)) fun σ H Q ⟨p, F, env, w, iv, h⟩ => by
    refine ⟨p, F, env, w, iv, Post.bind h fun x w1 v F1 H1 _ g1 pn1 rx h1 => ?_⟩
    obtain ⟨d, e, h2⟩ := Post.opt1 h1
    cases rx with
    | tup hq rs =>
      rename_i l _
      simp only [lenSetF] at e
      cases q : Rh.rowsOf l with
      | none => rw [q] at e; cases e
      | some rows =>
        rw [q] at e
        simp only at e
        split at e
        · rename_i hlt
          cases e
          obtain ⟨ks, rfl, e2, h3⟩ := rs.rows q
          have hkl : ks.length = rows.length := by rw [← e2, List.length_map]
          refine ⟨_, ks, rfl, g1.fh.t hq, fun z hz => g1.fh.t (h3 z hz), by omega, fun b L hb s1 s2 nd => ?_⟩
          have g2 := Grow.lay (p := p) g1.fh hb (o := SetTO X.prog X.w b L)
          refine ⟨b, L, rfl, by rw [upd_same], fun z hz => g2.fh.t (h3 z (s1 z hz)), ?_⟩
          have el : L.length = distN rows := by
            rw [← distN_eq rows (L.map (·.2)) nd fun x => ?_, List.length_map]
            rw [← e2]
            constructor
            · intro hx
              obtain ⟨z, hz, rfl⟩ := List.mem_map.mp hx
              exact List.mem_map.mpr ⟨z, s1 z hz, rfl⟩
            · intro hx
              obtain ⟨z, hz, rfl⟩ := List.mem_map.mp hx
              exact s2 z hz
          rw [el]
          exact h2 _ F1 _ g2 (pn1.lay hb) (.int _)
        · cases e
    | _ => cases e
end
end Rh
set_option Elab.async false
set_option linter.all false
set_option maxRecDepth 100000
set_option maxHeartbeats 4000000
/-! Rh: repr by data, where no repr goes on around; defs that are called there only. -/
namespace Rh
open PySem L2 PySem.Spec PyProof.Rows
def repF : D → Option D
  | .tup l => (match D.py (.tup l) with
    | some x => if x.showable && !x.hasDict && decide (x.depth ≤ 40) && decide (x.shown.length ≤ sizeLine) then some (.str x.shown) else none
    | none => none)
  | .lst l => (match D.py (.lst l) with
    | some x => if x.showable && !x.hasDict && decide (x.depth ≤ 40) && decide (x.shown.length ≤ sizeLine) then some (.str x.shown) else none
    | none => none)
  | _ => none
def xrepr (a : XF) : XF := fun σ w => bnd (a σ w) fun x w => opt (repF x) w
section
variable {X : Cx}
def rRepr (K : PySem.W.Frag) : List V → Hp → VK → Prop := fun xs H Q => ∃ (a : Addr) (x : PyData), xs = [V.ref a] ∧ Dp K H (.ref a) x ∧ x.showable = true ∧ x.hasDict = false ∧ x.depth ≤ 40 ∧ x.shown.length ≤ sizeLine ∧ Q (.str x.shown) H
theorem py_ok {K : PySem.W.Frag} {H : Hp} {v : V} {x : PyData} {pins : List (Addr × Obj)} {σ : L2.St} {s : Shared} (I : Inv X pins σ H s) (u : Value) (h : Dp X.K H v x) (r : RelV v u) : ∃ as, Reads s.heap u x as := Dp.reads I x v u h r
theorem cr_repr (hg : X.A.guards = some []) (hu : X.A.units + 64 < cLine) : CallR X (.builtin "repr") (rRepr X.K) := by
  rintro pins s σ H xs us Q I r ⟨a, x, rfl, hd, h1, h2, h3, h4, q⟩
  rw [Vals.ref1 r]
  obtain ⟨as, R⟩ := Dp.reads I x (.ref a) (.ref a) hd rfl
  exact repr_of_reads' R h1 (fun z => by rw [h2] at z; cases z) hg (by omega) (fun _ _ e => e) (fun h' u tk hk => ⟨.str x.shown, H, I.kept (t' := tk) hk, ⟨u, rfl⟩, q⟩) h4
end
section
variable {X : Cx} {T : Tx} {W : XK} {pos p1 : Pos} {a : Expr} {fa : XF}
theorem x_repr (hgd : X.A.guards = some []) (hu : X.A.units + 64 < cLine) (hm : X.mg "repr" = none) (ha : PE X a (tX X.K T W fa)) (hg : Gl X "repr" := by rfl)
    (hs : starEach (a :: []) X.env = (false, eval a X.env) :: starEach [] X.env := by rfl) : PE X (.Call (.Name "repr" p1) [a] [] pos) (tX X.K T W (xrepr fa)) :=
  imE (pe_callB (cr_repr hgd hu) hg hm boot_repr (pa_cons ha pa_nil hs) (by decide) (by decide) hs (by rfl)) fun σ H Q ⟨p, F, env, w, iv, h⟩ => by
    refine ⟨p, F, env, w, iv, Post.bind h fun x w1 v F1 H1 _ g1 pn1 rx h1 => ?_⟩
    obtain ⟨d, e, h2⟩ := Post.opt1 h1
    have key : ∀ (v : V) (y : PyData), (∃ a, v = .ref a) → Rp X.K T p F1 v x → D.py x = some y → (if y.showable && !y.hasDict && decide (y.depth ≤ 40) && decide (y.shown.length ≤ sizeLine) then some (D.str y.shown) else none) = some d → rRepr X.K [v] H1 Q := by
      rintro v y ⟨a, rfl⟩ rx hy e
      split at e
      · rename_i z
        cases e
        simp only [Bool.and_eq_true, Bool.not_eq_true', decide_eq_true_eq] at z
        exact ⟨a, y, rfl, dp_mono g1.fh (rx.dp hy), z.1.1.1, z.1.1.2, z.1.2, z.2, h2.here g1.fh pn1 (.str _)⟩
      · cases e
    cases rx with
    | tup hq rs =>
      simp only [repF] at e
      split at e
      · rename_i y hy
        exact key _ y ⟨_, rfl⟩ (.tup hq rs) hy e
      · cases e
    | lst hq rs =>
      simp only [repF] at e
      split at e
      · rename_i y hy
        exact key _ y ⟨_, rfl⟩ (.lst hq rs) hy e
      · cases e
    | _ => cases e
end
/-! ### defs that are called where no repr goes on -/
structure FnOkG (P : Program) (w : World) (K : PySem.W.Frag) (mg : Str → Option Value) (base : Heap) (CX : CXT) (k : Nat) (f : Addr) (fd : FuncData) (ps : List Str) (sp : Sp) : Prop where
  len : ∀ vs H Q E, sp vs H Q E → vs.length = ps.length
  run : ∀ (A : Around) (outer : List Env) (s : Shared) (H : Hp) (args : Args) (us : List Value) (vs : List V) (Q : VK) (E : XK), Room k A → A.guards = some [] → Env0 P w K mg base A outer s H → BindsTo s fd args (ps.zip us) → Vals vs us → sp vs H Q E →
    codeAny (model P w) A (.call (.ref f) args) (L2.CR CX outer P w H s Q E) s
structure FdG (P : Program) (w : World) (K : PySem.W.Frag) (mg : Str → Option Value) (base : Heap) (T : Tx) (k : Nat) (x : Str) (np : Nat) (g : FnF) : Prop where
  ex : ∃ (f : Addr) (fd : FuncData) (ps : List Str), FnOkG P w K mg base (L2.CX P w) k f fd ps (spF K T np g) ∧ mg x = some (.ref f) ∧ PySem.W.keepIn K (.ref f) = true ∧ Binds K fd ps []
  len : ∀ ds u, g ds u ≠ none → ds.length = np
section
variable {P : Program} {w : World} {K : PySem.W.Frag} {mg : Str → Option Value} {base : Heap} {T : Tx}
theorem okG {x qual : Str} {st : Stmt} {f : Addr} {fd : FuncData} {N ps : List Str} {k : Nat} {sp : Sp} (F : L2.Fun K x qual st f fd) (S : FnScope N ps (defScope st)) (len : ∀ vs H Q E, sp vs H Q E → vs.length = ps.length)
    (hbody : ∀ (cdv : Value) (A : Around) (outer : List Env) (s : Shared) (H : Hp) (vs : List V) (Q : VK) (E : XK), A.guards = some [] → Room k (A.deeper (envOfC qual (defScope st) s.heap.objs.size f cdv)) → sp vs H Q E →
      ∃ t, PSs (cxOf (L2.CX P w) P w K mg base N qual (defScope st) f cdv A outer s H E) (defBody st) t ∧ t { nx := fun _ H' => Q .non H', rt := Q } (L2.start N vs) H) : FnOkG P w K mg base (L2.CX P w) (k + 1) f fd ps sp := by
  obtain ⟨oc, od, kV, doc, pm, an, cdv, ct, osl, rfl, lk, hcd⟩ := F.ex
  exact ⟨len, fun A outer s H args us vs Q E hr hgd e0 hb r hsp => LamX.run_ofS lk hcd S hr e0 hb r (len _ _ _ _ hsp) fun hr' => hbody cdv A outer s H vs Q E hgd hr' hsp⟩
theorem fdG_of {x qual : Str} {st : Stmt} {f : Addr} {fd : FuncData} {N ps : List Str} {k np n : Nat} {body : SF} (F : L2.Fun K x qual st f fd) (S : FnScope N ps (defScope st)) (hnp : ps.length = np) (hn : N.length = n)
    (hm : mg x = some (.ref f)) (hb : Binds K fd ps [])
    (h : ∀ (cdv : Value) (A : Around) (outer : List Env) (s : Shared) (H : Hp) (E : XK), A.guards = some [] → Room k (A.deeper (envOfC qual (defScope st) s.heap.objs.size f cdv)) →
      PSs (cxOf (L2.CX P w) P w K mg base N qual (defScope st) f cdv A outer s H E) (defBody st) (tS K T E body)) : FdG P w K mg base T (k + 1) x np (fnF np n body) :=
  ⟨⟨f, fd, ps, okG F S (spF_len hnp) fun cdv A outer s H vs Q E hgd hr hs => ⟨_, h cdv A outer s H E hgd hr, fn_body hn hs⟩, hm, F.kp, hb⟩, fun ds u z => by
    unfold fnF at z
    split at z
    · assumption
    · exact absurd rfl z⟩
end
section
variable {X : Cx} {k : Nat} {f : Addr} {fd : FuncData} {ps : List Str} {sp : Sp} {E : XK} {x : Str} {p1 pos : Pos} {e : Expr} {es : List Expr} {t : TA}
theorem run_fnG {pins : List (Addr × Obj)} {σ : L2.St} {H : Hp} {s : Shared} {Q : VK} {us : List Value} {vs : List V} (F : FnOkG X.prog X.w X.K X.mg X.base (L2.CX X.prog X.w) k f fd ps sp) (hr : Room k X.A) (hgd : X.A.guards = some []) (hb : Binds X.K fd ps []) (hx : Passes (L2.CX X.prog X.w) X E)
    (I : Inv X pins σ H s) (r : Vals vs us) (h : sp vs H Q E) : wpAny (model X.prog X.w) X.A (call (.ref f) us) (EP X pins σ Q) X.xe s := by
  have hl : (us ++ []).length = ps.length := by rw [List.append_nil, ← r.length]; exact F.len _ _ _ _ h
  have hbt := hb s us I.kIn hl
  rw [List.append_nil] at hbt
  refine wpAny_call (codeAny_mono (F.run X.A X.stack s H ⟨us, []⟩ us vs Q E hr hgd I.env0 hbt r h) ?_)
  rintro (e | (v | _ | _ | _)) s' hq
  · exact hx pins σ H s e s' I hq
  · exact hq.elim
  · exact hq.elim
  · exact hq.elim
  · exact I.after hq
end
section
variable {X : Cx} {T : Tx} {W : XK} {x : Str} {np k k' : Nat} {g : FnF} {p1 pos : Pos} {e : Expr} {es : List Expr} {fs : AF}
theorem x_callG (F : FdG X.prog X.w X.K X.mg X.base T k x np g) (hgd : X.A.guards = some []) (hr : Room k X.A) (hp : Passes (L2.CX X.prog X.w) X W) (ha : PA X (e :: es) (tA X.K T W fs)) (hg : Gl X x := by rfl) (hdb : (x == ("__debug__" : Str)) = false := by decide)
    (he : starEach (e :: es) X.env = (false, eval e X.env) :: starEach es X.env := by rfl) (hpl : (backTo pos (starEach es X.env)).any (·.1) = false := by rfl) :
    PE X (.Call (.Name x p1) (e :: es) [] pos) (tX X.K T W (xcall g fs)) := by
  obtain ⟨f, fd, ps, FO, hm, hkp, hb⟩ := F.ex
  refine ⟨fun pins s σ H Q I ⟨p, F1, env, w, iv, h⟩ => wpAny_Call_Name_kw (ld_glob I hg hm ?_ hdb)⟩
  refine PySem.W.callWith_K (h₀ := X.base) I.ok.mod.kin hkp (thn (ha.run pos pins s σ H _ I ⟨p, F1, env, w, iv, Post.bind h fun ds w1 vs F2 H2 _ g2 pn2 rs h2 => show spF X.K T np g vs H2 Q W from ?_⟩) fun us s1 ⟨vs, H1, I1, r, q⟩ => ⟨I1.kIn, run_fnG FO hr hgd hb hp I1 r q⟩) he hpl
  exact ⟨by rw [rs.length]; exact F.len ds w1 (post_ne h2), p, F2, ds, w1, g2.fh, pn2, rs, h2⟩
end
end Rh
set_option Elab.async false
set_option linter.all false
set_option maxRecDepth 100000
set_option maxHeartbeats 4000000
/-! Rh: what the derivations lean on. -/
namespace Rh
open PySem L2 PySem.Spec PyProof.Rows
/-- names = a list of that length -/
def sunp (l : List Nat) (a : XF) : SF := fun σ w => bnd (a σ w) fun x w => match x with
  | .lst ds => opt ((setTs σ l ds).map .nx) w
  | _ => none
section
variable {X : Cx} {T : Tx} {W : XK} {pos : Pos} {a tg : Expr} {fa : XF}
theorem s_unp {l : List Nat} (hg : PG X tg (gLst X.K l.length (gsOf l))) (ha : PE X a (tX X.K T W fa)) (hs : swapsWithSole [tg] a pos.line X.env = pure false := by rfl) (hw : swappedStores [tg] a X.env = pure none := by rfl)
    (h1 : (assignEach [tg] X.env).map (·.2) = [assign tg X.env] := by rfl) : PS X (.Assign [tg] a pos) (tS X.K T W (sunp l fa)) :=
  imS (ps_asg ha hg hs hw h1) fun D σ H ⟨p, F0, H0, F, env, w, iv, h⟩ => ⟨p, F, env, w, iv.iv, PostS.bind iv h fun x w1 v F1 H1 _ _ _ rx iv1 h1 => by
    cases rx with
    | lst hq rs =>
      obtain ⟨fl, e, h2⟩ := PostS.opt1 h1
      rw [Option.map_eq_some_iff] at e
      obtain ⟨τ, e, rfl⟩ := e
      exact ⟨_, _, rfl, SqL.of (iv1.iv.sub _ _ hq), by rw [rs.length, setTs_len e], setTs_okS iv1 rs e fun σ' iv' => h2 σ' F1 H1 iv'⟩
    | _ => exact h1.elim⟩
end
structure FnAt (K : PySem.W.Frag) (mg : Str → Option Value) (x : Str) (st : Stmt) : Prop where
  ex : ∃ (f : Addr) (fd : FuncData), L2.Fun K x x st f fd ∧ mg x = some (.ref f)
structure FnDAt (K : PySem.W.Frag) (mg : Str → Option Value) (x : Str) (st : Stmt) (m : Nat) : Prop where
  ex : ∃ (f : Addr) (fd : FuncData), L2.FunD K x x (defArgs st) (defBody st) (defScope st) (List.replicate m V.non) [] f fd ∧ mg x = some (.ref f)
/-- Paper.__init__ as it stands behind the top -/
def PaperTxt (K : PySem.W.Frag) (f : Addr) : Prop := ∃ (dV kV doc pm cdv ct oc : Value) (an od : Option Addr) (osl : Array (Option Value)),
  K.lookup f = some ⟨oc, od, .func (PySem.W.fnOf "__init__" "Paper.__init__" (defArgs sPaper) (defBody sPaper) (defScope sPaper) dV kV doc pm an cdv ct), osl⟩ ∧ PySem.W.codeIn K cdv "Paper.__init__" = true ∧
  ∀ us rest : List Value, us.length = ["self", "word"].length → bindArgs (PySem.W.fnOf "__init__" "Paper.__init__" (defArgs sPaper) (defBody sPaper) (defScope sPaper) dV kV doc pm an cdv ct) ⟨us ++ rest, []⟩ = (newTuple rest >>= fun t => pure ((["self", "word"] : List Str).zip us ++ [(("parts" : Str), t)]))
structure Hd (P : Program) (w : World) (K : PySem.W.Frag) (mg : Str → Option Value) (base : Heap) (T : Tx) : Prop where
  len : mg "len" = none
  tuple : mg "tuple" = none
  list : mg "list" = none
  set : mg "set" = none
  all : mg "all" = none
  sum : mg "sum" = none
  max : mg "max" = none
  min : mg "min" = none
  abs : mg "abs" = none
  int : mg "int" = none
  bool : mg "bool" = none
  repr : mg "repr" = none
  isinstance : mg "isinstance" = none
  range : mg "range" = none
  enumerate : mg "enumerate" = none
  zip : mg "zip" = none
  gcd : mg "gcd" = some (.builtin "math.gcd")
  most : ∃ t, mg "MOST_STORES_FAN" = some (.int 2 t)
  il : IsiOk K T
  err0 : ∃ fI, PySem.RhX.ErrTxt P K mg "BadNumber" (T.ea 0) fI
  err1 : ∃ fI, PySem.RhX.ErrTxt P K mg "BadValue" (T.ea 1) fI
  ef0 : T.ef 0 = "part"
  ef1 : T.ef 1 = "part"
  fld1 : FldOk K T 1 1 "parts"
  fld2 : FldOk K T 1 2 "rays"
  fld3 : FldOk K T 1 3 "numbers"
  f_is_integer : FnAt K mg "is_integer" (top 13)
  f_is_within : FnAt K mg "is_within" (top 14)
  f_is_listed : FnAt K mg "is_listed" (top 15)
  f_is_row : FnDAt K mg "is_row" (top 16) 2
  f_need_number : FnAt K mg "need_number" (top 17)
  f_need_value : FnAt K mg "need_value" (top 18)
  f_fixed : FnAt K mg "fixed" (top 20)
  f_is_fraction : FnAt K mg "is_fraction" (top 23)
  f_are_fractions : FnAt K mg "are_fractions" (top 24)
  f_lowest_of : FnAt K mg "lowest_of" (top 25)
  f_plus : FnAt K mg "plus" (top 26)
  f_times : FnAt K mg "times" (top 27)
  f_shared_bottom : FnAt K mg "shared_bottom" (top 28)
  f_over_it : FnAt K mg "over_it" (top 29)
  f_turn_of : FnAt K mg "turn_of" (top 32)
  f_quarter_of : FnAt K mg "quarter_of" (top 33)
  f_is_ahead : FnAt K mg "is_ahead" (top 35)
  f_by_angle : FnAt K mg "by_angle" (top 34)
  f_neighbours : FnAt K mg "neighbours" (top 36)
  f_is_lowest : FnAt K mg "is_lowest" (top 37)
  f_are_rays : FnAt K mg "are_rays" (top 38)
  f_threes : FnAt K mg "threes" (top 41)
  f_bulge : FnAt K mg "bulge" (top 42)
  f_are_round : FnAt K mg "are_round" (top 43)
  f_are_all_round : FnAt K mg "are_all_round" (top 44)
  f_is_formed : FnAt K mg "is_formed" (top 45)
  f_worth_by : FnAt K mg "worth_by" (top 46)
  f_corner_at : FnAt K mg "corner_at" (top 47)
  f_need_lots : FnAt K mg "need_lots" (top 48)
  f_is_in : FnAt K mg "is_in" (top 49)
  f_corners : FnAt K mg "corners" (top 50)
  f_widths : FnAt K mg "widths" (top 51)
  f_middle : FnAt K mg "middle" (top 52)
  f_law_draw : FnAt K mg "_law_draw" (top 55)
  f_law_pick : FnAt K mg "_law_pick" (top 56)
  f_law_heard : FnAt K mg "_law_heard" (top 57)
  f_law_turn : FnAt K mg "_law_turn" (top 58)
  f_law_low_ray : FnAt K mg "_law_low_ray" (top 59)
  f_law_half : FnAt K mg "_law_half" (top 60)
  f_law_by_angle : FnAt K mg "_law_by_angle" (top 61)
  f_law_gcd : FnAt K mg "_law_gcd" (top 62)
  f_law_frac : FnAt K mg "_law_frac" (top 63)
  f_law_sum : FnAt K mg "_law_sum" (top 64)
  f_law_is_at_most : FnAt K mg "_law_is_at_most" (top 65)
  f_law_worth : FnAt K mg "_law_worth" (top 66)
  f_law_points : FnAt K mg "_law_points" (top 67)
  f_law_great : FnAt K mg "_law_great" (top 68)
  f_law_corner : FnAt K mg "_law_corner" (top 69)
  f_law_is_within : FnAt K mg "_law_is_within" (top 70)
  f_law_one_right : FnAt K mg "_law_one_right" (top 71)
  f_law_refused_right : FnAt K mg "_law_refused_right" (top 72)
  lotsC : ∃ C, mg "Lots" = some (.ref C) ∧ (∀ n, (["NoneType", "bool", "int", "str", "tuple", "list", "dict"].contains n) = true → PySem.W.kitOne K (.type n) (.ref C) = some false) ∧ (∀ c, ([1] : List Nat).contains c = true → PySem.W.kitOne K (.ref (T.ca c)) (.ref C) = some true) ∧ (∀ c, ([1] : List Nat).contains c = false → ([0] : List Nat).contains c = true → PySem.W.kitOne K (.ref (T.ca c)) (.ref C) = some false)
  lotsT : ∃ C fI fP, LotsTxt P K mg C fI fP ∧ Mk K C fI ∧ T.ca 1 = C ∧ T.fnm 1 = (["word", "parts", "rays", "numbers"] : List Str) ∧ mg "Lots" = some (.ref C) ∧ PaperTxt K fP
  paperT : ∃ C fP, InsOk K C ∧ Mk K C fP ∧ T.ca 0 = C ∧ T.fnm 0 = (["word", "parts"] : List Str) ∧ mg "Paper" = some (.ref C) ∧ PaperTxt K fP
  heardT : ∃ CR CCal CYard CRow CNum CVal, Hrd K mg CR CCal CYard CRow CNum CVal ∧ T.ea 0 = CNum ∧ T.ea 1 = CVal
def t_yes_t : TT := tYes
theorem t_yes {X : Cx} {T : Tx} {W : XK} : PTs X [] (tT X.K T W tyes) := ⟨fun pins s σ H Q I ⟨p, F, env, w, iv, h⟩ => (pts_nil (X := X)).run pins s σ H Q I (h.here iv.sub iv.pen rfl)⟩
section
variable {P : Program} {w : World} {K : PySem.W.Frag} {mg : Str → Option Value} {base : Heap} {T : Tx} {k np n : Nat} {body : SF} {x : Str} {st : Stmt} {N ps ks : List Str}
abbrev BdOk (P : Program) (w : World) (K : PySem.W.Frag) (mg : Str → Option Value) (base : Heap) (T : Tx) (k : Nat) (x : Str) (st : Stmt) (N : List Str) (body : SF) : Prop :=
  ∀ (cdv : Value) (A : Around) (outer : List Env) (s : Shared) (H : Hp) (E : XK) (f : Addr), Room k (A.deeper (envOfC x (defScope st) s.heap.objs.size f cdv)) → PSs (cxOf (L2.CX P w) P w K mg base N x (defScope st) f cdv A outer s H E) (defBody st) (tS K T E body)
theorem fd_at (h : FnAt K mg x st) (S : FnScope N ps (defScope st)) (hnp : ps.length = np) (hn : N.length = n)
    (hb : ∀ (kV doc pm : Value) (an : Option Addr) (cdv ct : Value) (us : List Value), us.length = ps.length → bindArgs (PySem.W.fnOf x x (defArgs st) (defBody st) (defScope st) .none kV doc pm an cdv ct) ⟨us, []⟩ = pure (ps.zip us))
    (b : BdOk P w K mg base T k x st N body) : Fd P w K mg base T (k + 1) x np (fnF np n body) := by
  obtain ⟨f, fd, F, hm⟩ := h.ex
  exact fd_of F S hnp hn hm (F.binds hb) fun cdv A outer s H E hr => b cdv A outer s H E f hr
theorem fdG_at (h : FnAt K mg x st) (S : FnScope N ps (defScope st)) (hnp : ps.length = np) (hn : N.length = n)
    (hb : ∀ (kV doc pm : Value) (an : Option Addr) (cdv ct : Value) (us : List Value), us.length = ps.length → bindArgs (PySem.W.fnOf x x (defArgs st) (defBody st) (defScope st) .none kV doc pm an cdv ct) ⟨us, []⟩ = pure (ps.zip us))
    (b : ∀ (cdv : Value) (A : Around) (outer : List Env) (s : Shared) (H : Hp) (E : XK) (f : Addr), A.guards = some [] → Room k (A.deeper (envOfC x (defScope st) s.heap.objs.size f cdv)) → PSs (cxOf (L2.CX P w) P w K mg base N x (defScope st) f cdv A outer s H E) (defBody st) (tS K T E body)) : FdG P w K mg base T (k + 1) x np (fnF np n body) := by
  obtain ⟨f, fd, F, hm⟩ := h.ex
  exact fdG_of F S hnp hn hm (F.binds hb) fun cdv A outer s H E hgd hr => b cdv A outer s H E f hgd hr
theorem fdK_at {tr : {α : Type} → List α → List α} (h : FnAt K mg x st) (S : FnScope N ps (defScope st)) (hnp : ps.length = np) (hn : N.length = n)
    (hb : ∀ (kV doc pm : Value) (an : Option Addr) (cdv ct : Value) (ws : List Value), ws.length = ks.length → bindArgs (PySem.W.fnOf x x (defArgs st) (defBody st) (defScope st) .none kV doc pm an cdv ct) ⟨[], ks.zip ws⟩ = pure (ps.zip (tr ws)))
    (hv : ∀ {vs : List V} {us : List Value}, Vals vs us → Vals (tr vs) (tr us)) (hrp : ∀ {K : PySem.W.Frag} {T : Tx} {p : Addr} {F : Hp} {vs : List V} {ds : List D}, Rps K T p F vs ds → Rps K T p F (tr vs) (tr ds))
    (b : BdOk P w K mg base T k x st N body) : FdK P w K mg base T (k + 1) x np (fnF np n body) ks tr := by
  obtain ⟨f, fd, F, hm⟩ := h.ex
  exact fdK_of F S hnp hn hm (kb_of F hb hv) hrp fun cdv A outer s H E hr => b cdv A outer s H E f hr
/-- a def whose code object is known -/
structure FnCAt (K : PySem.W.Frag) (mg : Str → Option Value) (x : Str) (st : Stmt) (c : Addr) : Prop where
  ex : ∃ (f : Addr) (oc : Value) (od : Option Addr) (kV doc pm : Value) (an : Option Addr) (ct : Value) (osl : Array (Option Value)), K.lookup f = some ⟨oc, od, .func (PySem.W.fnOf x x (defArgs st) (defBody st) (defScope st) .none kV doc pm an (.ref c) ct), osl⟩ ∧ PySem.W.codeIn K (.ref c) x = true ∧ mg x = some (.ref f) ∧ PySem.W.keepIn K (.ref f) = true
def lamQ (x : Str) (st : Stmt) : Str := (envOfC x (defScope st) 0 0 .none).qual ++ "<lambda>"
theorem fdC_at {c : Addr} (h : FnCAt K mg x st c) (S : FnScope N ps (defScope st)) (hnp : ps.length = np) (hn : N.length = n)
    (hb : ∀ (kV doc pm : Value) (an : Option Addr) (ct : Value) (us : List Value), us.length = ps.length → bindArgs (PySem.W.fnOf x x (defArgs st) (defBody st) (defScope st) .none kV doc pm an (.ref c) ct) ⟨us, []⟩ = pure (ps.zip us))
    (b : ∀ (A : Around) (outer : List Env) (s : Shared) (H : Hp) (E : XK) (f : Addr), Room k (A.deeper (envOfC x (defScope st) s.heap.objs.size f (.ref c))) → PSs (cxOf (L2.CX P w) P w K mg base N x (defScope st) f (.ref c) A outer s H E) (defBody st) (tS K T E body)) : Fd P w K mg base T (k + 1) x np (fnF np n body) := by
  obtain ⟨f, oc, od, kV, doc, pm, an, ct, osl, lk, hcd, hm, hkp⟩ := h.ex
  exact ⟨⟨f, _, ps, L2.fn_of lk hcd S (spF_len hnp) fun A outer s H vs Q E hr hs => ⟨_, b A outer s H E f hr, fn_body hn hs⟩, hm, hkp, Binds.all fun us hl => hb kV doc pm an ct us hl⟩, fun ds u z => by
    unfold fnF at z
    split at z
    · assumption
    · exact absurd rfl z⟩
theorem fdD_of {m : Nat} (h : FnDAt K mg x st m) (hd : m ≠ 0) (S : FnScope N ps (defScope st)) (hnp : ps.length = np) (hn : N.length = n) (hj : (ps.length - m) + m = ps.length)
    (hb : ∀ (T : Addr) (kV doc pm : Value) (an : Option Addr) (cdv ct : Value) (us its : List Value), us.length = ps.length - m → its.length = m →
      ∃ k, bindArgs (PySem.W.fnOf x x (defArgs st) (defBody st) (defScope st) (.ref T) kV doc pm an cdv ct) ⟨us, []⟩ = seqItems? (.ref T) >>= k ∧ k (some its.toArray) = pure (ps.zip (us ++ its.drop 0)))
    (b : BdOk P w K mg base T k x st N body) : FdD P w K mg base T (k + 1) x np m (fnF np n body) := by
  obtain ⟨f, fd, F, hm⟩ := h.ex
  obtain ⟨ds, h1, h2⟩ := F.binds1 (ps := ps) (ps.length - m) 0 (by cases m with
    | zero => exact absurd rfl hd
    | succ m => simp) (by simpa using hj) (fun T kV doc pm an cdv ct us its l1 l2 => hb T kV doc pm an cdv ct us its l1 (by simpa using l2))
  exact ⟨⟨f, fd, ps, ds, F.ok S (spF_len hnp) fun cdv A outer s H vs Q E hr hs => ⟨_, b cdv A outer s H E f hr, fn_body hn hs⟩, hm, F.kp, h2, h1⟩, fun ds u z => by
    unfold fnF at z
    split at z
    · assumption
    · exact absurd rfl z⟩
end
end Rh
set_option Elab.async false
set_option linter.all false
set_option maxRecDepth 100000
set_option maxHeartbeats 4000000
/-! Rh: the plain functions, printed by gen.py. -/
namespace Rh
open PySem L2
def fixedB (g : FnF) : SF := scons (site (xtru (xisi (xvar 0) .listTuple)) (scons (sret (xbui .tuple (acons (xcomp [1] (.nm 1) (srcSeq (xvar 0)) tyes (xcall g (acons (xvar 1) anil))) anil))) snil) snil) (scons (sret (xvar 0)) snil)
def fixedF : Nat → FnF
  | 0 => fun _ _ => none
  | n + 1 => fnF 1 2 (fixedB (fixedF n))
def is_integerB : SF := scons (sret (xand (xisi (xvar 0) .int) (xnot (xisi (xvar 0) .bool)))) (snil)
def is_integerF : FnF := fnF 1 1 is_integerB
def is_withinB : SF := scons (site (tnot (xtru (xcall is_integerF (acons (xvar 0) (anil))))) (scons (sret (xcst (.bl false))) (snil)) (snil)) (scons (sret (xand (xor (xcmp .isN (xvar 1) (xcst .non)) (xcmp .ge (xvar 0) (xvar 1))) (xor (xcmp .isN (xvar 2) (xcst .non)) (xcmp .le (xvar 0) (xvar 2))))) (snil))
def is_withinF : FnF := fnF 3 3 is_withinB
def is_listedB : SF := scons (sret (xisi (xvar 0) .listTuple)) (snil)
def is_listedF : FnF := fnF 1 1 is_listedB
def is_rowB : SF := scons (sret (xand (xcall is_listedF (acons (xvar 0) (anil))) (xand (xcmp .eq (xbui .len (acons (xvar 0) anil)) (xvar 1)) (xbui .all (acons (xcomp [4] (.nm 4) (srcSeq (xvar 0)) (tyes) (xcall is_withinF (acons (xvar 4) (acons (xvar 2) (acons (xvar 3) (anil)))))) anil))))) (snil)
def is_rowF : FnF := fnF 4 5 is_rowB
def need_numberB : SF := scons (site (tnot (xtru (xcall is_withinF (acons (xvar 0) (acons (xvar 2) (acons (xvar 3) (anil))))))) (scons (srais 0 (xvar 1)) (snil)) (snil)) (snil)
def need_numberF : FnF := fnF 4 4 need_numberB
def need_valueB : SF := scons (site (tnot (xtru (xvar 0))) (scons (srais 1 (xvar 1)) (snil)) (snil)) (snil)
def need_valueF : FnF := fnF 2 2 need_valueB
def is_fractionB : SF := scons (site (tor (tnot (xtru (xcall is_listedF (acons (xvar 0) (anil))))) (xtru (xcmp .ne (xbui .len (acons (xvar 0) anil)) (xcst (.int 2))))) (scons (sret (xcst (.bl false))) (snil)) (snil)) (scons (site (tor (tnot (xtru (xcall is_withinF (acons (xidx (xvar 0) (xcst (.int 0))) (acons (xcst .non) (acons (xcst .non) (anil))))))) (tnot (xtru (xcall is_withinF (acons (xidx (xvar 0) (xcst (.int 1))) (acons (xcst (.int 1)) (acons (xcst .non) (anil)))))))) (scons (sret (xcst (.bl false))) (snil)) (snil)) (scons (sret (xcmp .eq (xbui .gcd (acons (xidx (xvar 0) (xcst (.int 0))) (acons (xidx (xvar 0) (xcst (.int 1))) anil))) (xcst (.int 1)))) (snil)))
def is_fractionF : FnF := fnF 1 1 is_fractionB
def are_fractionsB : SF := scons (sret (xand (xcall is_listedF (acons (xvar 0) (anil))) (xand (xcmp .eq (xbui .len (acons (xvar 0) anil)) (xvar 1)) (xbui .all (acons (xcomp [2] (.nm 2) (srcSeq (xvar 0)) (tyes) (xcall is_fractionF (acons (xvar 2) (anil)))) anil))))) (snil)
def are_fractionsF : FnF := fnF 2 3 are_fractionsB
def lowest_ofB : SF := scons (sasg (.nm 2) (xbui .gcd (acons (xvar 0) (acons (xvar 1) anil)))) (scons (sret (xtup (acons (xbin .fdiv (xvar 0) (xvar 2)) (acons (xbin .fdiv (xvar 1) (xvar 2)) (anil))))) (snil))
def lowest_ofF : FnF := fnF 2 3 lowest_ofB
def plusB : SF := scons (sret (xcall lowest_ofF (acons (xbin .add (xbin .mul (xidx (xvar 0) (xcst (.int 0))) (xidx (xvar 1) (xcst (.int 1)))) (xbin .mul (xidx (xvar 1) (xcst (.int 0))) (xidx (xvar 0) (xcst (.int 1))))) (acons (xbin .mul (xidx (xvar 0) (xcst (.int 1))) (xidx (xvar 1) (xcst (.int 1)))) (anil))))) (snil)
def plusF : FnF := fnF 2 2 plusB
def timesB : SF := scons (sret (xcall lowest_ofF (acons (xbin .mul (xidx (xvar 0) (xcst (.int 0))) (xvar 1)) (acons (xidx (xvar 0) (xcst (.int 1))) (anil))))) (snil)
def timesF : FnF := fnF 2 2 timesB
def shared_bottomB : SF := scons (sasg (.nm 1) (xcst (.int 1))) (scons (sfor (.nm 2) (srcSeq (xvar 0)) (scons (sasg (.nm 1) (xbin .fdiv (xbin .mul (xvar 1) (xidx (xvar 2) (xcst (.int 1)))) (xbui .gcd (acons (xvar 1) (acons (xidx (xvar 2) (xcst (.int 1))) anil))))) (snil))) (scons (sret (xvar 1)) (snil)))
def shared_bottomF : FnF := fnF 1 3 shared_bottomB
def over_itB : SF := scons (sret (xbin .mul (xidx (xvar 0) (xcst (.int 0))) (xbin .fdiv (xvar 1) (xidx (xvar 0) (xcst (.int 1)))))) (snil)
def over_itF : FnF := fnF 2 2 over_itB
def turn_ofB : SF := scons (sret (xbin .sub (xbin .mul (xidx (xvar 0) (xcst (.int 0))) (xidx (xvar 1) (xcst (.int 1)))) (xbin .mul (xidx (xvar 0) (xcst (.int 1))) (xidx (xvar 1) (xcst (.int 0)))))) (snil)
def turn_ofF : FnF := fnF 2 2 turn_ofB
def quarter_ofB : SF := scons (site (tand (xtru (xcmp .ge (xidx (xvar 0) (xcst (.int 1))) (xcst (.int 0)))) (xtru (xcmp .gt (xidx (xvar 0) (xcst (.int 0))) (xcst (.int 0))))) (scons (sret (xcst (.int 0))) (snil)) (snil)) (scons (site (tand (xtru (xcmp .le (xidx (xvar 0) (xcst (.int 0))) (xcst (.int 0)))) (xtru (xcmp .gt (xidx (xvar 0) (xcst (.int 1))) (xcst (.int 0))))) (scons (sret (xcst (.int 1))) (snil)) (snil)) (scons (sret (xife (tand (xtru (xcmp .lt (xidx (xvar 0) (xcst (.int 0))) (xcst (.int 0)))) (xtru (xcmp .le (xidx (xvar 0) (xcst (.int 1))) (xcst (.int 0))))) (xcst (.int 2)) (xcst (.int 3)))) (snil)))
def quarter_ofF : FnF := fnF 1 1 quarter_ofB
def is_aheadB : SF := scons (site (xtru (xcmp .ne (xcall quarter_ofF (acons (xvar 0) (anil))) (xcall quarter_ofF (acons (xvar 1) (anil))))) (scons (sret (xcmp .lt (xcall quarter_ofF (acons (xvar 0) (anil))) (xcall quarter_ofF (acons (xvar 1) (anil))))) (snil)) (snil)) (scons (sret (xcmp .gt (xcall turn_ofF (acons (xvar 0) (acons (xvar 1) (anil)))) (xcst (.int 0)))) (snil))
def is_aheadF : FnF := fnF 2 2 is_aheadB
def by_angleB : SF := scons (snew 1) (scons (sfor (.nm 2) (srcSeq (xvar 0)) (scons (sasg (.nm 3) (xcst (.int 0))) (scons (swhl 1000 (tand (xtru (xcmp .lt (xvar 3) (xlenM 1))) (xtru (xcall is_aheadF (acons (xidxM 1 (xvar 3)) (acons (xvar 2) (anil)))))) (scons (saug 3 (xcst (.int 1))) (snil))) (scons (sins 1 (xvar 3) (xvar 2)) (snil))))) (scons (sret (xtupM 1)) (snil)))
def by_angleF : FnF := fnF 1 4 by_angleB
def neighboursB : SF := scons (sret (xcomp [1, 2] (.tp [1, 2]) (srcEnum (xvar 0)) (tyes) (xtup (acons (xvar 2) (acons (xidx (xvar 0) (xbin .mod (xbin .add (xvar 1) (xcst (.int 1))) (xbui .len (acons (xvar 0) anil)))) (anil)))))) (snil)
def neighboursF : FnF := fnF 1 3 neighboursB
def is_lowestB : SF := scons (sasg (.nm 1) (xcst (.int 0))) (scons (sfor (.nm 2) (srcSeq (xvar 0)) (scons (sasg (.nm 1) (xbui .gcd (acons (xvar 1) (acons (xvar 2) anil)))) (snil))) (scons (sret (xcmp .eq (xvar 1) (xcst (.int 1)))) (snil)))
def is_lowestF : FnF := fnF 1 3 is_lowestB
def are_raysB : SF := scons (sexpr (xcall need_numberF (acons (xvar 1) (acons (xcst (.str "stores")) (acons (xcst (.int 1)) (acons (xcst (.int 2)) (anil))))))) (scons (site (tor (tnot (xtru (xcall is_listedF (acons (xvar 0) (anil))))) (tnot (xtru (xbui .all (acons (xcomp [2] (.nm 2) (srcSeq (xvar 0)) (tyes) (xand (xcall (dflF 2 is_rowF) (acons (xvar 2) (acons (xvar 1) (anil)))) (xcall is_lowestF (acons (xvar 2) (anil))))) anil))))) (scons (sret (xcst (.bl false))) (snil)) (snil)) (scons (sasg (.nm 3) (xcall (fixedF 8) (acons (xvar 0) (anil)))) (scons (site (xtru (xcmp .eq (xvar 1) (xcst (.int 1)))) (scons (sret (xcmp .eq (xvar 3) (xtup (acons (xtup (acons (xneg (xcst (.int 1))) (anil))) (acons (xtup (acons (xcst (.int 1)) (anil))) (anil)))))) (snil)) (snil)) (scons (site (tor (xtru (xcmp .lt (xbui .len (acons (xvar 3) anil)) (xcst (.int 3)))) (tor (xtru (xcmp .lt (xlenSet (xvar 3)) (xbui .len (acons (xvar 3) anil)))) (xtru (xcmp .ne (xvar 3) (xcall by_angleF (acons (xvar 3) (anil))))))) (scons (sret (xcst (.bl false))) (snil)) (snil)) (scons (sret (xbui .all (acons (xcomp [4, 5] (.tp [4, 5]) (srcSeq (xcall neighboursF (acons (xvar 3) (anil)))) (tyes) (xcmp .gt (xcall turn_ofF (acons (xvar 4) (acons (xvar 5) (anil)))) (xcst (.int 0)))) anil))) (snil))))))
def are_raysF : FnF := fnF 2 6 are_raysB
def threesB : SF := scons (sasg (.nm 1) (xbui .len (acons (xvar 0) anil))) (scons (sret (xcomp [2] (.nm 2) (srcRng1 (xvar 1)) (tyes) (xtup (acons (xvar 2) (acons (xbin .mod (xbin .add (xvar 2) (xcst (.int 1))) (xvar 1)) (acons (xbin .mod (xbin .add (xvar 2) (xcst (.int 2))) (xvar 1)) (anil))))))) (snil))
def threesF : FnF := fnF 1 3 threesB
def bulgeB : SF := scons (sunp [3, 4, 5] (xcomp [6] (.nm 6) (srcSeq (xvar 1)) (tyes) (xidx (xvar 0) (xvar 6)))) (scons (sunp [7, 8, 9] (xcomp [6] (.nm 6) (srcSeq (xvar 1)) (tyes) (xidx (xvar 2) (xvar 6)))) (scons (sret (xbin .sub (xbin .add (xbin .mul (xcall turn_ofF (acons (xvar 4) (acons (xvar 5) (anil)))) (xvar 7)) (xbin .mul (xcall turn_ofF (acons (xvar 3) (acons (xvar 4) (anil)))) (xvar 9))) (xbin .mul (xcall turn_ofF (acons (xvar 3) (acons (xvar 5) (anil)))) (xvar 8)))) (snil)))
def bulgeF : FnF := fnF 3 10 bulgeB
def are_roundB : SF := scons (site (xtru (xcmp .eq (xbui .len (acons (xidx (xvar 0) (xcst (.int 0))) anil)) (xcst (.int 1)))) (scons (sret (xcmp .ge (xbui .sum (acons (xvar 1) anil)) (xcst (.int 0)))) (snil)) (snil)) (scons (sret (xbui .all (acons (xcomp [2] (.nm 2) (srcSeq (xcall threesF (acons (xvar 0) (anil)))) (tyes) (xcmp .ge (xcall bulgeF (acons (xvar 0) (acons (xvar 2) (acons (xvar 1) (anil))))) (xcst (.int 0)))) anil))) (snil))
def are_roundF : FnF := fnF 2 3 are_roundB
def are_all_roundB : SF := scons (sasg (.nm 2) (xcall shared_bottomF (acons (xflat 3 4 (srcSeq (xvar 1))) (anil)))) (scons (sret (xbui .all (acons (xcomp [3] (.nm 3) (srcSeq (xvar 1)) (tyes) (xcall are_roundF (acons (xvar 0) (acons (xcomp [4] (.nm 4) (srcSeq (xvar 3)) (tyes) (xcall over_itF (acons (xvar 4) (acons (xvar 2) (anil))))) (anil))))) anil))) (snil))
def are_all_roundF : FnF := fnF 2 5 are_all_roundB
def is_formedB : SF := scons (site (tor (tnot (xtru (xisi (xvar 0) (.cls [1] [0])))) (tor (tnot (xtru (xcall is_listedF (acons (xfld (xvar 0) 1 2) (anil))))) (tor (xtru (xcmp .eq (xbui .len (acons (xfld (xvar 0) 1 2) anil)) (xcst (.int 0)))) (tnot (xtru (xcall is_listedF (acons (xidx (xfld (xvar 0) 1 2) (xcst (.int 0))) (anil)))))))) (scons (sret (xcst (.bl false))) (snil)) (snil)) (scons (sasg (.nm 1) (xbui .len (acons (xidx (xfld (xvar 0) 1 2) (xcst (.int 0))) anil))) (scons (site (tor (tnot (xtru (xchn .le .le (xcst (.int 1)) (xvar 1) (xcst (.int 2))))) (tnot (xtru (xcall are_raysF (acons (xfld (xvar 0) 1 2) (acons (xvar 1) (anil))))))) (scons (sret (xcst (.bl false))) (snil)) (snil)) (scons (site (tor (tnot (xtru (xcall is_listedF (acons (xfld (xvar 0) 1 3) (anil))))) (xtru (xcmp .eq (xbui .len (acons (xfld (xvar 0) 1 3) anil)) (xcst (.int 0))))) (scons (sret (xcst (.bl false))) (snil)) (snil)) (scons (site (tnot (xtru (xbui .all (acons (xcomp [2] (.nm 2) (srcSeq (xfld (xvar 0) 1 3)) (tyes) (xcall are_fractionsF (acons (xvar 2) (acons (xbui .len (acons (xfld (xvar 0) 1 2) anil)) (anil))))) anil)))) (scons (sret (xcst (.bl false))) (snil)) (snil)) (scons (sret (xcall are_all_roundF (acons (xfld (xvar 0) 1 2) (acons (xfld (xvar 0) 1 3) (anil))))) (snil))))))
def is_formedF : FnF := fnF 1 3 is_formedB
def worth_byB : SF := scons (sasg (.nm 2) (xtup (acons (xcst (.int 0)) (acons (xcst (.int 1)) (anil))))) (scons (sfor (.tp [3, 4]) (srcZip (xvar 0) (xvar 1)) (scons (sasg (.nm 2) (xcall plusF (acons (xvar 2) (acons (xcall timesF (acons (xvar 4) (acons (xvar 3) (anil)))) (anil))))) (snil))) (scons (sret (xvar 2)) (snil)))
def worth_byF : FnF := fnF 2 5 worth_byB
def corner_atB : SF := scons (spar2 3 4 (xidx (xvar 0) (xvar 2)) (xidx (xvar 0) (xbin .mod (xbin .add (xvar 2) (xcst (.int 1))) (xbui .len (acons (xvar 0) anil))))) (scons (spar3 5 6 7 (xidx (xvar 1) (xvar 2)) (xidx (xvar 1) (xbin .mod (xbin .add (xvar 2) (xcst (.int 1))) (xbui .len (acons (xvar 0) anil)))) (xcall turn_ofF (acons (xvar 3) (acons (xvar 4) (anil))))) (scons (sasg (.nm 8) (xcall plusF (acons (xcall timesF (acons (xvar 5) (acons (xidx (xvar 4) (xcst (.int 1))) (anil)))) (acons (xcall timesF (acons (xvar 6) (acons (xneg (xidx (xvar 3) (xcst (.int 1)))) (anil)))) (anil))))) (scons (sasg (.nm 9) (xcall plusF (acons (xcall timesF (acons (xvar 5) (acons (xneg (xidx (xvar 4) (xcst (.int 0)))) (anil)))) (acons (xcall timesF (acons (xvar 6) (acons (xidx (xvar 3) (xcst (.int 0))) (anil)))) (anil))))) (scons (sret (xtup (acons (xcall lowest_ofF (acons (xidx (xvar 8) (xcst (.int 0))) (acons (xbin .mul (xidx (xvar 8) (xcst (.int 1))) (xvar 7)) (anil)))) (acons (xcall lowest_ofF (acons (xidx (xvar 9) (xcst (.int 0))) (acons (xbin .mul (xidx (xvar 9) (xcst (.int 1))) (xvar 7)) (anil)))) (anil))))) (snil)))))
def corner_atF : FnF := fnF 3 10 corner_atB
def need_lotsB : SF := scons (sexpr (xcall need_valueF (acons (xcall is_formedF (acons (xvar 0) (anil))) (acons (xcst (.str "held")) (anil))))) (scons (sexpr (xcall need_numberF (acons (xvar 1) (acons (xcst (.str "guess")) (acons (xcst (.int 0)) (acons (xbin .sub (xbui .len (acons (xfld (xvar 0) 1 3) anil)) (xcst (.int 1))) (anil))))))) (snil))
def need_lotsF : FnF := fnF 2 2 need_lotsB
def is_inB : SF := scons (sexpr (xcall need_lotsF (acons (xvar 0) (acons (xvar 1) (anil))))) (scons (sexpr (xcall need_valueF (acons (xcall are_fractionsF (acons (xvar 2) (acons (xbui .len (acons (xidx (xfld (xvar 0) 1 2) (xcst (.int 0))) anil)) (anil)))) (acons (xcst (.str "point")) (anil))))) (scons (sfor (.tp [3, 4]) (srcZip (xfld (xvar 0) 1 2) (xidx (xfld (xvar 0) 1 3) (xvar 1))) (scons (sasg (.nm 5) (xcall worth_byF (acons (xvar 3) (acons (xvar 2) (anil))))) (scons (site (xtru (xcmp .gt (xbin .mul (xidx (xvar 5) (xcst (.int 0))) (xidx (xvar 4) (xcst (.int 1)))) (xbin .mul (xidx (xvar 4) (xcst (.int 0))) (xidx (xvar 5) (xcst (.int 1)))))) (scons (sret (xcst (.bl false))) (snil)) (snil)) (snil)))) (scons (sret (xcst (.bl true))) (snil))))
def is_inF : FnF := fnF 3 6 is_inB
def cornersB : SF := scons (sexpr (xcall need_lotsF (acons (xvar 0) (acons (xvar 1) (anil))))) (scons (sasg (.tp [2, 3]) (xtup (acons (xfld (xvar 0) 1 2) (acons (xidx (xfld (xvar 0) 1 3) (xvar 1)) (anil))))) (scons (site (xtru (xcmp .eq (xbui .len (acons (xidx (xvar 2) (xcst (.int 0))) anil)) (xcst (.int 1)))) (scons (sret (xtup (acons (xtup (acons (xcall timesF (acons (xidx (xvar 3) (xcst (.int 0))) (acons (xneg (xcst (.int 1))) (anil)))) (anil))) (acons (xtup (acons (xidx (xvar 3) (xcst (.int 1))) (anil))) (anil))))) (snil)) (snil)) (scons (sret (xbui .tuple (acons (xcomp [4] (.nm 4) (srcRng1 (xbui .len (acons (xcall neighboursF (acons (xvar 2) (anil))) anil))) (tyes) (xcall corner_atF (acons (xvar 2) (acons (xvar 3) (acons (xvar 4) (anil)))))) anil))) (snil))))
def cornersF : FnF := fnF 2 5 cornersB
def widthsB : SF := scons (spar2m 2 3 (xcall cornersF (acons (xvar 0) (acons (xvar 1) (anil))))) (scons (sfor (.nm 4) (srcRng1 (xbui .len (acons (xidx (xvar 2) (xcst (.int 0))) anil))) (scons (sasg (.nm 5) (xcall shared_bottomF (acons (xcomp [6] (.nm 6) (srcSeq (xvar 2)) (tyes) (xidx (xvar 6) (xvar 4))) (anil)))) (scons (sasg (.nm 7) (xcomp [6] (.nm 6) (srcSeq (xvar 2)) (tyes) (xcall over_itF (acons (xidx (xvar 6) (xvar 4)) (acons (xvar 5) (anil)))))) (scons (sapp 3 (xtup (acons (xcall lowest_ofF (acons (xbui .min (acons (xvar 7) anil)) (acons (xvar 5) (anil)))) (acons (xcall lowest_ofF (acons (xbui .max (acons (xvar 7) anil)) (acons (xvar 5) (anil)))) (anil))))) (snil))))) (scons (sret (xtupM 3)) (snil)))
def widthsF : FnF := fnF 2 8 widthsB
def middleB : SF := scons (spar2m 2 3 (xcall cornersF (acons (xvar 0) (acons (xvar 1) (anil))))) (scons (sfor (.nm 4) (srcRng1 (xbui .len (acons (xidx (xvar 2) (xcst (.int 0))) anil))) (scons (sasg (.nm 5) (xtup (acons (xcst (.int 0)) (acons (xcst (.int 1)) (anil))))) (scons (sfor (.nm 6) (srcSeq (xvar 2)) (scons (sasg (.nm 5) (xcall plusF (acons (xvar 5) (acons (xidx (xvar 6) (xvar 4)) (anil))))) (snil))) (scons (sapp 3 (xcall lowest_ofF (acons (xidx (xvar 5) (xcst (.int 0))) (acons (xbin .mul (xidx (xvar 5) (xcst (.int 1))) (xbui .len (acons (xvar 2) anil))) (anil))))) (snil))))) (scons (sret (xtupM 3)) (snil)))
def middleF : FnF := fnF 2 7 middleB
def law_drawB : SF := scons (site (xtru (xcmp .gt (xpen 2 (xvar 0)) (xcst (.int 0)))) (scons (sasg (.nm 2) (xbin .mod (xbui .int (acons (xpen 2 (xvar 0)) anil)) (xvar 1))) (scons (spen 2 (xvar 0) (xbin .fdiv (xbui .int (acons (xpen 2 (xvar 0)) anil)) (xvar 1))) (scons (sret (xvar 2)) (snil)))) (snil)) (scons (sasg (.nm 3) (xpen 1 (xvar 0))) (scons (spen 1 (xvar 0) (xbin .add (xvar 3) (xcst (.int 1)))) (scons (sasg (.nm 4) (xbin .add (xbin .mul (xcst (.int 110339)) (xvar 3)) (xcst (.int 12713)))) (scons (site (xtru (xcmp .ne (xpen 0 (xvar 0)) (xlst (anil)))) (scons (sasg (.nm 4) (xidx (xpen 0 (xvar 0)) (xbin .mod (xbui .int (acons (xvar 3) anil)) (xbui .len (acons (xpen 0 (xvar 0)) anil))))) (snil)) (snil)) (scons (site (tand (xtru (xcmp .lt (xvar 3) (xbui .len (acons (xpen 0 (xvar 0)) anil)))) (xtru (xcmp .ge (xbui .abs (acons (xvar 4) anil)) (xpow (xcst (.int 10)) (xcst (.int 18)))))) (scons (sasg (.nm 5) (xbin .add (xbig (xcst (.int 2)) (xbin .sub (xbui .abs (acons (xvar 4) anil)) (xpow (xcst (.int 10)) (xcst (.int 18))))) (xbui .int (acons (xcmp .lt (xvar 4) (xcst (.int 0))) anil)))) (scons (spen 2 (xvar 0) (xbin .fdiv (xbui .int (acons (xvar 5) anil)) (xvar 1))) (scons (sret (xbin .mod (xbui .int (acons (xvar 5) anil)) (xvar 1))) (snil)))) (snil)) (scons (sasg (.nm 6) (xbin .mod (xbui .int (acons (xpow (xbin .add (xbin .add (xbin .mod (xbui .int (acons (xvar 4) anil)) (xcst (.int 2147483549))) (xbin .mul (xcst (.int 110339)) (xvar 3))) (xcst (.int 12713))) (xcst (.int 5))) anil)) (xcst (.int 2147483629)))) (scons (sasg (.nm 6) (xbin .mod (xbui .int (acons (xpow (xbin .add (xbin .add (xbin .mul (xvar 6) (xbin .add (xbin .mul (xcst (.int 2)) (xvar 3)) (xcst (.int 4519)))) (xbin .mul (xbin .mul (xcst (.int 97423)) (xvar 3)) (xvar 3))) (xcst (.int 12713))) (xcst (.int 3))) anil)) (xcst (.int 2147483587)))) (scons (sret (xbin .mod (xbui .int (acons (xbin .fdiv (xvar 6) (xcst (.int 64))) anil)) (xvar 1))) (snil)))))))))
def law_drawF : FnF := fnF 2 7 law_drawB
def law_pickB : SF := scons (sret (xidx (xvar 1) (xcall law_drawF (acons (xvar 0) (acons (xbui .len (acons (xvar 1) anil)) (anil)))))) (snil)
def law_pickF : FnF := fnF 2 2 law_pickB
def law_turnB : SF := scons (sret (xbin .sub (xbin .mul (xidx (xvar 0) (xcst (.int 0))) (xidx (xvar 1) (xcst (.int 1)))) (xbin .mul (xidx (xvar 0) (xcst (.int 1))) (xidx (xvar 1) (xcst (.int 0)))))) (snil)
def law_turnF : FnF := fnF 2 2 law_turnB
def law_low_rayB : SF := scons (spar2 1 2 (xbui .abs (acons (xidx (xvar 0) (xcst (.int 0))) anil)) (xbui .abs (acons (xidx (xvar 0) (xcst (.int 1))) anil))) (scons (swhl 200000 (xtru (xcmp .ne (xvar 2) (xcst (.int 0)))) (scons (spar2 1 2 (xvar 2) (xbin .mod (xbui .int (acons (xvar 1) anil)) (xvar 2))) (snil))) (scons (sret (xtup (acons (xbin .fdiv (xidx (xvar 0) (xcst (.int 0))) (xvar 1)) (acons (xbin .fdiv (xidx (xvar 0) (xcst (.int 1))) (xvar 1)) (anil))))) (snil)))
def law_low_rayF : FnF := fnF 1 3 law_low_rayB
def law_halfB : SF := scons (sret (xife (tor (xtru (xcmp .gt (xidx (xvar 0) (xcst (.int 1))) (xcst (.int 0)))) (tand (xtru (xcmp .eq (xidx (xvar 0) (xcst (.int 1))) (xcst (.int 0)))) (xtru (xcmp .gt (xidx (xvar 0) (xcst (.int 0))) (xcst (.int 0)))))) (xcst (.int 0)) (xcst (.int 1)))) (snil)
def law_halfF : FnF := fnF 1 1 law_halfB
def law_by_angleB : SF := scons (snew 1) (scons (sfor (.nm 2) (srcSeq (xvar 0)) (scons (sasg (.nm 3) (xcst (.int 0))) (scons (swhl 1000 (tand (xtru (xcmp .lt (xvar 3) (xlenM 1))) (tor (xtru (xcmp .lt (xcall law_halfF (acons (xidxM 1 (xvar 3)) (anil))) (xcall law_halfF (acons (xvar 2) (anil))))) (tand (xtru (xcmp .eq (xcall law_halfF (acons (xidxM 1 (xvar 3)) (anil))) (xcall law_halfF (acons (xvar 2) (anil))))) (xtru (xcmp .gt (xcall law_turnF (acons (xidxM 1 (xvar 3)) (acons (xvar 2) (anil)))) (xcst (.int 0))))))) (scons (sasg (.nm 3) (xbin .add (xvar 3) (xcst (.int 1)))) (snil))) (scons (site (tor (xtru (xcmp .eq (xvar 3) (xlenM 1))) (xtru (xcmp .ne (xidxM 1 (xvar 3)) (xvar 2)))) (scons (sins 1 (xvar 3) (xvar 2)) (snil)) (snil)) (snil))))) (scons (sretM 1) (snil)))
def law_by_angleF : FnF := fnF 1 4 law_by_angleB
def law_gcdB : SF := scons (spar2 0 1 (xbui .abs (acons (xvar 0) anil)) (xbui .abs (acons (xvar 1) anil))) (scons (swhl 200000 (xtru (xcmp .ne (xvar 1) (xcst (.int 0)))) (scons (spar2 0 1 (xvar 1) (xbin .mod (xbui .int (acons (xvar 0) anil)) (xvar 1))) (snil))) (scons (sret (xvar 0)) (snil)))
def law_gcdF : FnF := fnF 2 2 law_gcdB
def law_fracB : SF := scons (sasg (.nm 2) (xcall law_gcdF (acons (xvar 0) (acons (xvar 1) (anil))))) (scons (sret (xtup (acons (xbin .fdiv (xvar 0) (xvar 2)) (acons (xbin .fdiv (xvar 1) (xvar 2)) (anil))))) (snil))
def law_fracF : FnF := fnF 2 3 law_fracB
def law_sumB : SF := scons (sret (xcall law_fracF (acons (xbin .add (xbin .mul (xidx (xvar 0) (xcst (.int 0))) (xidx (xvar 1) (xcst (.int 1)))) (xbin .mul (xbin .mul (xvar 2) (xidx (xvar 1) (xcst (.int 0)))) (xidx (xvar 0) (xcst (.int 1))))) (acons (xbin .mul (xidx (xvar 0) (xcst (.int 1))) (xidx (xvar 1) (xcst (.int 1)))) (anil))))) (snil)
def law_sumF : FnF := fnF 3 3 law_sumB
def law_is_at_mostB : SF := scons (sret (xcmp .le (xbin .mul (xidx (xvar 0) (xcst (.int 0))) (xidx (xvar 1) (xcst (.int 1)))) (xbin .mul (xidx (xvar 1) (xcst (.int 0))) (xidx (xvar 0) (xcst (.int 1)))))) (snil)
def law_is_at_mostF : FnF := fnF 2 2 law_is_at_mostB
def law_worthB : SF := scons (sasg (.nm 2) (xtup (acons (xcst (.int 0)) (acons (xcst (.int 1)) (anil))))) (scons (sfor (.tp [3, 4]) (srcZip (xvar 0) (xvar 1)) (scons (sasg (.nm 2) (xcall law_sumF (acons (xvar 2) (acons (xvar 4) (acons (xvar 3) (anil)))))) (snil))) (scons (sret (xvar 2)) (snil)))
def law_worthF : FnF := fnF 2 5 law_worthB
def law_pointsB : SF := scons (snew 2) (scons (sfor (.nm 3) (srcRng1 (xbin .add (xcst (.int 1)) (xcall law_drawF (acons (xvar 0) (acons (xcst (.int 4)) (anil)))))) (scons (sapp 2 (xbui .tuple (acons (xcomp [4] (.nm 4) (srcRng1 (xvar 1)) (tyes) (xcall law_fracF (acons (xbin .sub (xcall law_drawF (acons (xvar 0) (acons (xcst (.int 25)) (anil)))) (xcst (.int 12))) (acons (xbin .add (xcst (.int 1)) (xcall law_drawF (acons (xvar 0) (acons (xcst (.int 4)) (anil))))) (anil))))) anil))) (snil))) (scons (sretM 2) (snil)))
def law_pointsF : FnF := fnF 2 5 law_pointsB
def law_greatB : SF := scons (sasg (.nm 2) (xcall law_worthF (acons (xvar 0) (acons (xidx (xvar 1) (xcst (.int 0))) (anil))))) (scons (sfor (.nm 3) (srcSeq (xcut (some 1) none (xvar 1))) (scons (sasg (.nm 4) (xcall law_worthF (acons (xvar 0) (acons (xvar 3) (anil))))) (scons (sasg (.nm 2) (xife (tnot (xtru (xcall law_is_at_mostF (acons (xvar 4) (acons (xvar 2) (anil)))))) (xvar 4) (xvar 2))) (snil)))) (scons (sret (xvar 2)) (snil)))
def law_greatF : FnF := fnF 2 5 law_greatB
def law_cornerB : SF := scons (spar2 3 4 (xidx (xvar 0) (xvar 2)) (xidx (xvar 0) (xbin .mod (xbui .int (acons (xbin .add (xvar 2) (xcst (.int 1))) anil)) (xbui .len (acons (xvar 0) anil))))) (scons (spar3 5 6 7 (xidx (xvar 1) (xvar 2)) (xidx (xvar 1) (xbin .mod (xbui .int (acons (xbin .add (xvar 2) (xcst (.int 1))) anil)) (xbui .len (acons (xvar 0) anil)))) (xcall law_turnF (acons (xvar 3) (acons (xvar 4) (anil))))) (scons (sasg (.nm 8) (xcall law_sumF (acons (xcall law_sumF (acons (xtup (acons (xcst (.int 0)) (acons (xcst (.int 1)) (anil)))) (acons (xvar 5) (acons (xidx (xvar 4) (xcst (.int 1))) (anil))))) (acons (xvar 6) (acons (xneg (xidx (xvar 3) (xcst (.int 1)))) (anil)))))) (scons (sasg (.nm 9) (xcall law_sumF (acons (xcall law_sumF (acons (xtup (acons (xcst (.int 0)) (acons (xcst (.int 1)) (anil)))) (acons (xvar 6) (acons (xidx (xvar 3) (xcst (.int 0))) (anil))))) (acons (xvar 5) (acons (xneg (xidx (xvar 4) (xcst (.int 0)))) (anil)))))) (scons (sret (xtup (acons (xcall law_fracF (acons (xidx (xvar 8) (xcst (.int 0))) (acons (xbin .mul (xidx (xvar 8) (xcst (.int 1))) (xvar 7)) (anil)))) (acons (xcall law_fracF (acons (xidx (xvar 9) (xcst (.int 0))) (acons (xbin .mul (xidx (xvar 9) (xcst (.int 1))) (xvar 7)) (anil)))) (anil))))) (snil)))))
def law_cornerF : FnF := fnF 3 10 law_cornerB
def law_is_withinB : SF := scons (sret (xcmp .eq (xcomp [3, 4] (.tp [3, 4]) (srcEnum (xvar 0)) (tnot (xtru (xcall law_is_at_mostF (acons (xcall law_worthF (acons (xvar 4) (acons (xvar 2) (anil)))) (acons (xidx (xvar 1) (xvar 3)) (anil)))))) (xvar 3)) (xlst (anil)))) (snil)
def law_is_withinF : FnF := fnF 3 5 law_is_withinB
def law_one_rightB : SF := scons (sasg (.tp [4, 5]) (xtup (acons (xfld (xvar 1) 1 2) (acons (xidx (xfld (xvar 1) 1 3) (xvar 2)) (anil))))) (scons (sasg (.nm 6) (xife (xtru (xcmp .eq (xbui .len (acons (xidx (xvar 4) (xcst (.int 0))) anil)) (xcst (.int 1)))) (xlst (acons (xtup (acons (xtup (acons (xneg (xidx (xidx (xvar 5) (xcst (.int 0))) (xcst (.int 0)))) (acons (xidx (xidx (xvar 5) (xcst (.int 0))) (xcst (.int 1))) (anil)))) (anil))) (acons (xtup (acons (xidx (xvar 5) (xcst (.int 1))) (anil))) (anil)))) (xcomp [7] (.nm 7) (srcRng1 (xbui .len (acons (xvar 4) anil))) (tyes) (xcall law_cornerF (acons (xvar 4) (acons (xvar 5) (acons (xvar 7) (anil)))))))) (scons (site (tor (xtru (xcmp .ne (xrepr (xcall cornersF (acons (xvar 1) (acons (xvar 2) (anil))))) (xrepr (xbui .tuple (acons (xvar 6) anil))))) (xtru (xcmp .ne (xcallK0 cornersF turn2 2 (acons (xvar 2) (acons (xvar 1) (anil)))) (xbui .tuple (acons (xvar 6) anil))))) (scons (sret (xcst (.bl false))) (snil)) (snil)) (scons (spar2n 8 9) (scons (sfor (.nm 10) (srcRng1 (xbui .len (acons (xidx (xvar 4) (xcst (.int 0))) anil))) (scons (spar2 11 12 (xcomp [13] (.nm 13) (srcSeq (xvar 6)) (tyes) (xidx (xvar 13) (xvar 10))) (xtup (acons (xcst (.int 0)) (acons (xcst (.int 1)) (anil))))) (scons (spar2 14 15 (xidx (xvar 11) (xcst (.int 0))) (xidx (xvar 11) (xcst (.int 0)))) (scons (sfor (.nm 16) (srcSeq (xvar 11)) (scons (spar3 14 15 12 (xife (xtru (xcall law_is_at_mostF (acons (xvar 16) (acons (xvar 14) (anil))))) (xvar 16) (xvar 14)) (xife (xtru (xcall law_is_at_mostF (acons (xvar 15) (acons (xvar 16) (anil))))) (xvar 16) (xvar 15)) (xcall law_sumF (acons (xvar 12) (acons (xvar 16) (acons (xcst (.int 1)) (anil)))))) (snil))) (scons (sapp 8 (xtup (acons (xvar 14) (acons (xvar 15) (anil))))) (scons (sapp 9 (xcall law_fracF (acons (xidx (xvar 12) (xcst (.int 0))) (acons (xbin .mul (xidx (xvar 12) (xcst (.int 1))) (xbui .len (acons (xvar 11) anil))) (anil))))) (snil))))))) (scons (site (xtru (xcmp .ne (xrepr (xlst (acons (xcall widthsF (acons (xvar 1) (acons (xvar 2) (anil)))) (acons (xcall middleF (acons (xvar 1) (acons (xvar 2) (anil)))) (anil))))) (xrepr (xlst (acons (xtupM 8) (acons (xtupM 9) (anil))))))) (scons (sret (xcst (.bl false))) (snil)) (snil)) (scons (sfor (.nm 13) (srcSeq (xbin .add (xbin .add (xbin .add (xvar 3) (xvar 6)) (xlst (acons (xtupM 9) (anil)))) (xcall law_pointsF (acons (xvar 0) (acons (xbui .len (acons (xidx (xvar 4) (xcst (.int 0))) anil)) (anil)))))) (scons (sasg (.nm 17) (xcall law_is_withinF (acons (xvar 4) (acons (xvar 5) (acons (xvar 13) (anil)))))) (scons (site (xtru (xcmp .ne (xrepr (xlst (acons (xcall is_inF (acons (xvar 1) (acons (xvar 2) (acons (xvar 13) (anil))))) (acons (xcallK0 is_inF turn3 3 (acons (xbui .list (acons (xvar 13) anil)) (acons (xvar 2) (acons (xvar 1) (anil))))) (anil))))) (xrepr (xlst (acons (xvar 17) (acons (xvar 17) (anil))))))) (scons (sret (xcst (.bl false))) (snil)) (snil)) (snil)))) (scons (sret (xcmp .eq (xcomp [13] (.nm 13) (srcSeq (xbin .add (xbin .add (xvar 3) (xvar 6)) (xlst (acons (xtupM 9) (anil))))) (tnot (xtru (xcall law_is_withinF (acons (xvar 4) (acons (xvar 5) (acons (xvar 13) (anil))))))) (xvar 13)) (xlst (anil)))) (snil))))))))
def law_one_rightF : FnF := fnF 4 18 law_one_rightB
def law_refused_rightB : SF := scons (spar3 2 3 4 (xfld (xvar 1) 1 2) (xbui .len (acons (xfld (xvar 1) 1 3) anil)) (xbui .len (acons (xidx (xfld (xvar 1) 1 2) (xcst (.int 0))) anil))) (scons (sasg (.nm 5) (xlst (acons (xcst .non) (acons (xcst (.int 5)) (acons (xfld (xvar 1) 1 1) (acons (xpaper (fixedF 8) (xcst (.str "lots")) (xfld (xvar 1) 1 2) (xfld (xvar 1) 1 3)) (acons (xlots (fixedF 8) (xvar 2) (xtup (anil))) (acons (xlots (fixedF 8) (xtup (anil)) (xtup (anil))) (acons (xlots (fixedF 8) (xvar 2) (xcst .non)) (acons (xlots (fixedF 8) (xvar 2) (xlst (acons (xlst (acons (xtup (acons (xcst (.int 0)) (acons (xcst (.int 1)) (anil)))) (anil))) (anil)))) (acons (xlots (fixedF 8) (xlst (acons (xtup (acons (xcst (.int 1)) (acons (xcst (.int 0)) (acons (xcst (.int 0)) (anil))))) (anil))) (xlst (acons (xlst (acons (xtup (acons (xcst (.int 0)) (acons (xcst (.int 1)) (anil)))) (anil))) (anil)))) (acons (xlots (fixedF 8) (xvar 2) (xlst (acons (xbin .mul (xlst (acons (xtup (acons (xneg (xcst (.int 5))) (acons (xcst (.int 1)) (anil)))) (anil))) (xbui .len (acons (xvar 2) anil))) (anil)))) (anil))))))))))))) (scons (sasg (.tp [6, 7]) (xtup (acons (xcall law_pickF (acons (xvar 0) (acons (xbin .add (xvar 5) (xlst (acons (xlots (fixedF 8) (xrev (xvar 2)) (xfld (xvar 1) 1 3)) (acons (xlots (fixedF 8) (xvar 2) (xlst (acons (xbin .mul (xlst (acons (xtup (acons (xcst (.int 0)) (acons (xcst (.int 2)) (anil)))) (anil))) (xbui .len (acons (xvar 2) anil))) (anil)))) (acons (xlots (fixedF 8) (xvar 2) (xlst (acons (xbin .mul (xlst (acons (xtup (acons (xcst (.int 0)) (acons (xcst (.int 1)) (anil)))) (anil))) (xbui .len (acons (xvar 2) anil))) (acons (xcst .non) (anil))))) (anil)))))) (anil)))) (acons (xcall law_pickF (acons (xvar 0) (acons (xlst (acons (xcst .non) (acons (xneg (xcst (.int 1))) (acons (xvar 3) (acons (xcst (.str "0")) (acons (xcst (.bl true)) (anil))))))) (anil)))) (anil))))) (scons (sasg (.nm 8) (xcall law_pickF (acons (xvar 0) (acons (xlst (acons (xcst .non) (acons (xcst (.int 5)) (acons (xbin .mul (xlst (acons (xtup (acons (xcst (.int 0)) (acons (xcst (.int 1)) (anil)))) (anil))) (xbin .add (xvar 4) (xcst (.int 1)))) (acons (xbin .mul (xlst (acons (xtup (acons (xcst (.int 2)) (acons (xcst (.int 4)) (anil)))) (anil))) (xvar 4)) (acons (xbin .mul (xlst (acons (xtup (acons (xcst (.int 1)) (acons (xcst (.int 0)) (anil)))) (anil))) (xvar 4)) (acons (xbin .mul (xlst (acons (xcst (.int 0)) (anil))) (xvar 4)) (acons (xbin .mul (xlst (acons (xtup (acons (xcst (.bl true)) (acons (xcst (.int 1)) (anil)))) (anil))) (xvar 4)) (acons (xbin .mul (xlst (acons (xtup (acons (xcst (.str "0")) (acons (xcst (.int 1)) (anil)))) (anil))) (xvar 4)) (acons (xdic) (anil))))))))))) (anil))))) (scons (sasg (.nm 9) (xlst (acons (xheard (xcall is_inF (acons (xvar 6) (acons (xvar 7) (acons (xvar 8) (anil)))))) (acons (xheard (xcall cornersF (acons (xvar 6) (acons (xvar 7) (anil))))) (acons (xheard (xcall widthsF (acons (xvar 6) (acons (xvar 7) (anil))))) (anil)))))) (scons (sasg (.nm 9) (xbin .add (xvar 9) (xlst (acons (xheard (xcall middleF (acons (xvar 6) (acons (xvar 7) (anil))))) (acons (xheard (xcall is_inF (acons (xvar 1) (acons (xvar 7) (acons (xvar 8) (anil)))))) (acons (xheard (xcall cornersF (acons (xvar 1) (acons (xvar 7) (anil))))) (anil))))))) (scons (sasg (.nm 9) (xbin .add (xvar 9) (xlst (acons (xheard (xcall widthsF (acons (xvar 1) (acons (xvar 7) (anil))))) (acons (xheard (xcall middleF (acons (xvar 1) (acons (xvar 7) (anil))))) (acons (xheard (xcall is_inF (acons (xvar 1) (acons (xcst (.int 0)) (acons (xvar 8) (anil)))))) (anil))))))) (scons (sret (xcmp .eq (xvar 9) (xbin .add (xbin .add (xbin .mul (xlst (acons (xtup (acons (xcst (.str "value")) (acons (xcst (.str "held")) (anil)))) (anil))) (xcst (.int 4))) (xbin .mul (xlst (acons (xtup (acons (xcst (.str "number")) (acons (xcst (.str "guess")) (anil)))) (anil))) (xcst (.int 4)))) (xlst (acons (xtup (acons (xcst (.str "value")) (acons (xcst (.str "point")) (anil)))) (anil)))))) (snil))))))))
def law_refused_rightF : FnF := fnF 2 10 law_refused_rightB
/-- law, behind the pen; slots: script pen turn stores rays lots_of guess value ray some -/
def lawB : SF := scons (sfor (.nm 2) (srcRng1 (xcst (.int 4))) (scons (sasg (.nm 3) (xbin .add (xcst (.int 1)) (xcall law_drawF (acons (xvar 1) (acons (xcst (.int 2)) (anil)))))) (scons (sasg (.nm 4) (xife (xtru (xcmp .eq (xvar 3) (xcst (.int 1)))) (xlst (acons (xtup (acons (xneg (xcst (.int 1))) (anil))) (acons (xtup (acons (xcst (.int 1)) (anil))) (anil)))) (xcall law_by_angleF (acons (xbin .add (xlst (acons (xtup (acons (xcst (.int 1)) (acons (xcst (.int 0)) (anil)))) (acons (xtup (acons (xcst (.int 0)) (acons (xcst (.int 1)) (anil)))) (acons (xtup (acons (xneg (xcst (.int 1))) (acons (xcst (.int 0)) (anil)))) (acons (xtup (acons (xcst (.int 0)) (acons (xneg (xcst (.int 1))) (anil)))) (anil)))))) (xcomp [2] (.nm 2) (srcRng1 (xcall law_drawF (acons (xvar 1) (acons (xcst (.int 4)) (anil))))) (tyes) (xcall law_low_rayF (acons (xtup (acons (xbin .sub (xcall law_drawF (acons (xvar 1) (acons (xcst (.int 9)) (anil)))) (xcst (.int 4))) (acons (xbin .add (xcst (.int 1)) (xcall law_drawF (acons (xvar 1) (acons (xcst (.int 4)) (anil))))) (anil)))) (anil))))) (anil))))) (scons (sasg (.nm 4) (xife (tand (xtru (xcmp .eq (xvar 3) (xcst (.int 2)))) (xtru (xcmp .eq (xcall law_drawF (acons (xvar 1) (acons (xcst (.int 4)) (anil)))) (xcst (.int 0))))) (xlst (acons (xtup (acons (xcst (.int 2)) (acons (xcst (.int 1)) (anil)))) (acons (xtup (acons (xneg (xcst (.int 1))) (acons (xcst (.int 1)) (anil)))) (acons (xtup (acons (xneg (xcst (.int 1))) (acons (xneg (xcst (.int 3))) (anil)))) (anil))))) (xvar 4))) (scons (sasg (.nm 5) (xcomp [6] (.nm 6) (srcRng1 (xbin .add (xcst (.int 1)) (xcall law_drawF (acons (xvar 1) (acons (xcst (.int 3)) (anil)))))) (tyes) (xcall law_pointsF (acons (xvar 1) (acons (xvar 3) (anil)))))) (scons (sasg (.nm 7) (xlots (fixedF 8) (xvar 4) (xcomp [9] (.nm 9) (srcSeq (xvar 5)) (tyes) (xcomp [8] (.nm 8) (srcSeq (xvar 4)) (tyes) (xcall law_greatF (acons (xvar 8) (acons (xvar 9) (anil)))))))) (scons (sfor (.tp [6, 9]) (srcEnum (xvar 5)) (scons (site (tnot (xtru (xcall law_one_rightF (acons (xvar 1) (acons (xvar 7) (acons (xvar 6) (acons (xvar 9) (anil)))))))) (scons (sret (xcst (.bl false))) (snil)) (snil)) (snil))) (scons (site (tnot (xtru (xcall law_refused_rightF (acons (xvar 1) (acons (xvar 7) (anil)))))) (scons (sret (xcst (.bl false))) (snil)) (snil)) (snil))))))))) (scons (sret (xcst (.bl true))) (snil))
end Rh
set_option Elab.async false
set_option linter.all false
set_option maxRecDepth 100000
set_option maxHeartbeats 4000000
/-! Rh: fixed; Lots, Paper, _law_heard and isinstance(.., Lots) by what the head knows. -/
namespace Rh
open PySem L2 PySem.Spec PyProof.Rows
/-! ### fixed by values -/
def fixL (f : D → Option D) : List D → List D → Option (List D)
  | [], acc => some acc
  | d :: r, acc => match f d with
    | some y => if small (acc.length + 1) then fixL f r (acc ++ [y]) else none
    | none => none
def fixV : Nat → D → Option D
  | 0, _ => none
  | n + 1, .tup l => (fixL (fixV n) l []).map .tup
  | n + 1, .lst l => (fixL (fixV n) l []).map .tup
  | _ + 1, .pen => none
  | _ + 1, d => some d
theorem fixedF_comp (n : Nat) (ih : ∀ d w, fixedF n [d] w = opt (fixV n d) w) (w : Pn) (σ : En) (hσ : σ.length = 2) : ∀ (l acc : List D), compL σ [1] (.nm 1) tyes (xcall (fixedF n) (acons (xvar 1) anil)) l acc w = opt (fixL (fixV n) l acc) w
  | [], acc => rfl
  | d :: r, acc => by
    have IH := fixedF_comp n ih w σ hσ r
    have hs : slot ((wipeE σ [1]).set 1 (some (.val d))) 1 = some d := by
      unfold slot
      rw [List.getElem?_set_self (by simp [wipeE, hσ])]
    unfold compL fixL
    simp only [setT, tyes, bnd_ok, if_true, xcall, acons, anil, xvar, hs, opt_some, ih]
    cases fixV n d with
    | none => rfl
    | some y =>
      simp only [opt_some, bnd_ok]
      split
      · exact IH _
      · rfl
theorem fixedF_eq : ∀ (n : Nat) (d : D) (w : Pn), fixedF n [d] w = opt (fixV n d) w
  | 0, d, w => rfl
  | n + 1, d, w => by
    have ih := fixedF_eq n
    have c := fixedF_comp n ih w [some (.val d), none] rfl
    show fnF 1 2 (fixedB (fixedF n)) [d] w = _
    have st : startE 2 [d] = [some (.val d), none] := rfl
    have s0 : slot [some (Sl.val d), none] 0 = some d := rfl
    cases d with
    | tup l =>
      simp only [fnF, List.length_singleton, if_true, st, fixedB, scons, site, xtru, xisi, xvar, s0, opt_some, bnd_ok, isiF, Option.map_some, D.tru, sret, xbui, acons, anil, xcomp, srcSeq, seqOf, c, fixV]
      cases fixL (fixV n) l [] with
      | none => rfl
      | some ys => rfl
    | lst l =>
      simp only [fnF, List.length_singleton, if_true, st, fixedB, scons, site, xtru, xisi, xvar, s0, opt_some, bnd_ok, isiF, Option.map_some, D.tru, sret, xbui, acons, anil, xcomp, srcSeq, seqOf, c, fixV]
      cases fixL (fixV n) l [] with
      | none => rfl
      | some ys => rfl
    | _ => rfl
theorem fixedF_len (n : Nat) (ds : List D) (w : Pn) (h : ds.length ≠ 1) : fixedF n ds w = none := by
  cases n with
  | zero => rfl
  | succ n => show fnF 1 2 _ ds w = none; unfold fnF; rw [if_neg h]
theorem still_fixed (n : Nat) : Still (fixedF n) := fun ds w d w' h => by
  match ds, h with
  | [x], h =>
    rw [fixedF_eq] at h
    exact (opt_ok_of h).2.symm
  | [], h => rw [fixedF_len n _ _ (by simp)] at h; cases h
  | x :: y :: r, h => rw [fixedF_len n _ _ (by simp)] at h; cases h
section
variable {P : Program} {w : World} {K : PySem.W.Frag} {mg : Str → Option Value} {base : Heap} {T : Tx}
theorem fd_fixedN (h : Hd P w K mg base T) : ∀ n : Nat, Fd P w K mg base T (n + 1) "fixed" 1 (fixedF n)
  | 0 => by
    obtain ⟨f, fd, F, hm⟩ := h.f_fixed.ex
    refine ⟨⟨f, fd, ["value"], F.okX (N := ["value", "part"]) (k := 0) ⟨rfl, rfl, rfl, by decide +kernel, rfl, by decide +kernel, by decide +kernel⟩ (spF_len rfl) (fun cdv A outer s H vs Q E hr hs => ?_), hm, F.kp, F.binds fun _ _ _ _ _ _ us hl => match us, hl with | [_], _ => rfl⟩, fun ds u z => absurd rfl z⟩
    obtain ⟨_, p, F1, ds, u, _, _, _, hz⟩ := hs
    exact hz.elim
  | n + 1 => fd_at (N := ["value", "part"]) (ps := ["value"]) h.f_fixed ⟨rfl, rfl, rfl, by decide +kernel, rfl, by decide +kernel, by decide +kernel⟩ rfl rfl (fun _ _ _ _ _ _ us hl => match us, hl with | [_], _ => rfl) fun cdv A outer s H E f hr => by
    have nd : (["value", "part"] : List Str).Nodup := by decide +kernel
    have IH := fd_fixedN h n
    exact s_cons (s_if (t_tru (x_isiLT h.il h.isinstance h.list h.tuple (x_var 0))) (s_cons (s_ret (x_tuple h.tuple (x_comp (own := [("part", 1)]) (t := .nm 1) rfl nd (i_seq (x_var 0)) (blkOk_by (by kernel_rfl)) (by decide) (fun _ _ _ _ _ => pg_name (i := 1) nd rfl (by first | exact Or.inl rfl | exact Or.inr rfl)) (fun _ _ _ _ _ => t_yes) (fun _ _ _ _ _ => x_call IH hr passL (a_cons (x_var 1) a_nil) (Nat.le_refl _))))) s_nil) s_nil) (s_cons (s_ret (x_var 0)) s_nil)
theorem fd_fixed (h : Hd P w K mg base T) : Fd P w K mg base T 9 "fixed" 1 (fixedF 8) := fd_fixedN h 8
theorem paper_at (h : Hd P w K mg base T) {f : Addr} (t : PaperTxt K f) :
    FnR P w K mg base (L2.CX P w) 10 f (fun vs H Q E => ∃ ws rest, vs = ws ++ rest ∧ ws.length = ["self", "word"].length ∧ rest.length ≤ sizeLine ∧ ∀ p, H p = Option.none → spPaper K T (fixedF 8) (ws ++ [V.ref p]) (upd H p (.tup rest)) Q E) := by
  obtain ⟨dV, kV, doc, pm, cdv, ct, oc, an, od, osl, lk, hcd, hb⟩ := t
  exact paper_ok lk hcd (fd_fixed h) hb
end
section
variable {X : Cx} {T : Tx} {W : XK} {p1 p2 pos lpos : Pos} {a b c : Expr} {fa fb fc : XF} {k k' : Nat}
theorem x_lotsH (h : Hd X.prog X.w X.K X.mg X.base T) (hr : Room k' X.A) (hk : 12 ≤ k') (hp : Passes (L2.CX X.prog X.w) X W) (ha : PE X a (tX X.K T W fa)) (hb : PE X b (tX X.K T W fb)) (hg : Gl X "Lots" := by rfl)
    (hs2 : starEach (a :: [b]) X.env = (false, eval a X.env) :: starEach [b] X.env := by rfl) (hs1 : starEach (b :: []) X.env = (false, eval b X.env) :: starEach [] X.env := by rfl) (hpl : (backTo pos (starEach [b] X.env)).any (·.1) = false := by rfl) :
    PE X (.Call (.Name "Lots" p1) [a, b] [] pos) (tX X.K T W (xlots (fixedF 8) fa fb)) := by
  obtain ⟨C, fI, fP, LT, M, hT, hn, hm, PT⟩ := h.lotsT
  exact x_lots (still_fixed 8) LT M hT hn hm (lots_ok LT (paper_at h PT)) hr hk hp ha hb hg hs2 hs1 hpl
theorem x_paperH (h : Hd X.prog X.w X.K X.mg X.base T) (hr : Room k' X.A) (hk : 11 ≤ k') (hp : Passes (L2.CX X.prog X.w) X W) (ha : PE X a (tX X.K T W fa)) (hb : PE X b (tX X.K T W fb)) (hc : PE X c (tX X.K T W fc)) (hg : Gl X "Paper" := by rfl)
    (hs3 : starEach (a :: [b, c]) X.env = (false, eval a X.env) :: starEach [b, c] X.env := by rfl) (hs2 : starEach (b :: [c]) X.env = (false, eval b X.env) :: starEach [c] X.env := by rfl) (hs1 : starEach (c :: []) X.env = (false, eval c X.env) :: starEach [] X.env := by rfl) (hpl : (backTo pos (starEach [b, c] X.env)).any (·.1) = false := by rfl) :
    PE X (.Call (.Name "Paper" p1) [a, b, c] [] pos) (tX X.K T W (xpaper (fixedF 8) fa fb fc)) := by
  obtain ⟨C, fP, IO, M, hT, hn, hm, PT⟩ := h.paperT
  exact x_paper (still_fixed 8) IO M hT hn hm (paper_at h PT) hr hk hp ha hb hc hg hs3 hs2 hs1 hpl
theorem x_isiLots (h : Hd X.prog X.w X.K X.mg X.base T) (ha : PE X a (tX X.K T W fa)) (hg : Gl X "isinstance" := by rfl) (hg2 : Gl X "Lots" := by rfl)
    (hs : starEach (a :: [.Name "Lots" p2]) X.env = (false, eval a X.env) :: starEach [.Name "Lots" p2] X.env := by rfl) (hs1 : starEach (.Name "Lots" p2 :: []) X.env = (false, eval (.Name "Lots" p2) X.env) :: starEach [] X.env := by rfl) (hpl : (backTo pos (starEach [.Name "Lots" p2] X.env)).any (·.1) = false := by rfl) :
    PE X (.Call (.Name "isinstance" p1) [a, .Name "Lots" p2] [] pos) (tX X.K T W (xisi fa (.cls [1] [0]))) := by
  obtain ⟨C, hm, h1, h2, h3⟩ := h.lotsC
  exact x_isiCls h.il h.isinstance hm ha h1 h2 h3 hg hg2 (by decide) hs hs1 hpl
theorem pass_lam {A : Around} {outer : List Env} {s : Shared} {H : Hp} {E : XK} {scope : Scope} {f c' : Addr} : Passes (L2.CX (LamX.lamCx X A outer s H E scope f c').prog (LamX.lamCx X A outer s H E scope f c').w) (LamX.lamCx X A outer s H E scope f c') E :=
  passes_call (takes_of rfl rfl rfl rfl) fun _ _ _ _ h => h
theorem x_heardH (k : Nat) {c P : Addr} {params : Arguments} {body : Expr} {scope : Scope} (h : Hd X.prog X.w X.K X.mg X.base T)
    (TB : LamX.TabB X.base X.mg c P) (hcode : X.env.code = .ref c) (hmT : (P, X.env.qual ++ "<lambda>") ∈ T.tb) (hu : ∀ p ∈ T.tb, p.1 = P → p.2 = X.env.qual ++ "<lambda>") (hr : Room k' X.A) (hkk : k + 2 ≤ k') (L : RhL.LamP X.N X.env.scope scope) (hpar : RhL.Par params)
    (hbind : ∀ (q : Str) (cl : List (Str × Addr)) (dV doc pm cv ctv : Value) (s' : Shared) (H : Hp) (fs : List Addr), (params.defaults = [] → dV = .none) → (params.defaults ≠ [] → dV ≠ .none) → RhL.DOk dV s'.heap H fs → ∃ binds, BindsTo s' (PySem.W.kdv_fn "<lambda>" q params (.expr body) scope cl dV doc pm cv ctv) ⟨[], []⟩ binds ∧ ∀ y ∈ binds, scope.names.lookup y.1 = some .local)
    (hbody : ∀ (A : Around) (outer : List Env) (s : Shared) (H : Hp) (E : XK) (f c' : Addr), Room k (A.deeper (LamX.lamEnv X scope s.heap.objs.size f c')) → PE (LamX.lamCx X A outer s H E scope f c') body (tX X.K T E fa)) (hg : Gl X "_law_heard" := by rfl) :
    PE X (.Call (.Name "_law_heard" p1) [.Lambda params body scope lpos] [] pos) (tX X.K T W (xheard fa)) := by
  obtain ⟨CR, CCal, CYard, CRow, CNum, CVal, R, e0, e1⟩ := h.heardT
  obtain ⟨f, fd, F, hm⟩ := h.f_law_heard.ex
  have hb := F.binds (ps := ["ask"]) fun _ _ _ _ _ _ us hl => match us, hl with | [_], _ => rfl
  have hk := F.kp
  obtain ⟨oc, od, kV, doc, pm, an, cdv, ct, osl, rfl, lk, hcd⟩ := F.ex
  exact x_heard R e0 e1 h.ef0 h.ef1 hm hk lk hcd hb TB hcode hmT hu hr hkk L hpar hbind hbody hg
end
end Rh
set_option Elab.async false
set_option linter.all false
set_option maxRecDepth 100000
set_option maxHeartbeats 4000000
/-! Rh: fractions by rational numbers. -/
namespace Rh
open PySem L2
theorem slot_z (d : D) (σ : En) : slot (some (.val d) :: σ) 0 = some d := rfl
theorem slot_s (x : Option Sl) (σ : En) (n : Nat) : slot (x :: σ) (n + 1) = slot σ n := rfl
theorem mslot_z (l : List D) (σ : En) : mslot (some (.chg l) :: σ) 0 = some l := rfl
theorem mslot_s (x : Option Sl) (σ : En) (n : Nat) : mslot (x :: σ) (n + 1) = mslot σ n := rfl
theorem start_eq (n : Nat) (ds : List D) : startE n ds = ds.map (fun d => some (.val d)) ++ List.replicate (n - ds.length) none := rfl
theorem idx_tup (l : List D) (i : Int) : idxF (.tup l) (.int i) = atI l i := rfl
theorem idx_lst (l : List D) (i : Int) : idxF (.lst l) (.int i) = atI l i := rfl
theorem at2_0 (a b : D) : atI [a, b] 0 = some a := rfl
theorem at2_1 (a b : D) : atI [a, b] 1 = some b := rfl
theorem at1_0 (a : D) : atI [a] 0 = some a := rfl
theorem small2 : small 2 = true := by decide +kernel
theorem small1 : small 1 = true := by decide +kernel
theorem small3 : small 3 = true := by decide +kernel
theorem small0 : small 0 = true := by decide +kernel
theorem bo_add (i j : Int) : boF .add (.int i) (.int j) = some (.int (i + j)) := rfl
theorem bo_sub (i j : Int) : boF .sub (.int i) (.int j) = some (.int (i - j)) := rfl
theorem bo_mul {i j : Int} (h : mulOk i j = true) : boF .mul (.int i) (.int j) = some (.int (i * j)) := by simp only [boF, h, if_true]
theorem bo_fdiv {i j : Int} (h : divOk j = true) : boF .fdiv (.int i) (.int j) = some (.int (i / j)) := by simp only [boF, h, if_true]
theorem bo_mod {i j : Int} (h : 0 < j) : boF .mod (.int i) (.int j) = some (.int (i % j)) := by simp only [boF, h, decide_true, if_true]
theorem bu_gcd (i j : Int) : buF .gcd [.int i, .int j] = some (.int ((Nat.gcd i.natAbs j.natAbs : Nat) : Int)) := rfl
theorem snil_eq (σ : En) (w : Pn) : snil σ w = some (.ok (.nx σ) w) := rfl
theorem spass_eq (σ : En) (w : Pn) : spass σ w = some (.ok (.nx σ) w) := rfl
theorem tru_bl (b : Bool) : D.tru (.bl b) = some b := rfl
theorem tru_int (i : Int) : D.tru (.int i) = some (i != 0) := rfl
theorem tru_non : D.tru .non = some false := rfl
theorem tru_lst (l : List D) : D.tru (.lst l) = some (!l.isEmpty) := rfl
theorem co_lt (i j : Int) : coF .lt (.int i) (.int j) = some (.bl (decide (i < j))) := rfl
theorem co_le (i j : Int) : coF .le (.int i) (.int j) = some (.bl (decide (i ≤ j))) := rfl
theorem co_gt (i j : Int) : coF .gt (.int i) (.int j) = some (.bl (decide (j < i))) := rfl
theorem co_ge (i j : Int) : coF .ge (.int i) (.int j) = some (.bl (decide (j ≤ i))) := rfl
theorem co_isN (a : D) : coF .isN a .non = some (.bl a.isNon) := by cases a <;> rfl
theorem eq_int (a b : Int) : eqF (.int a) (.int b) = some (a == b) := by
  first | rfl | simp [eqF, D.py, SeqAt.shaped, PyData.eqv]
theorem ne_int (a b : Int) : coF .ne (.int a) (.int b) = some (.bl (!(a == b))) := by
  show (eqF (.int a) (.int b)).map (fun k => D.bl (!k)) = _
  rw [eq_int]; rfl
theorem eqc_int (a b : Int) : coF .eq (.int a) (.int b) = some (.bl (a == b)) := by
  show (eqF (.int a) (.int b)).map D.bl = _
  rw [eq_int]; rfl
theorem bu_abs (i : Int) : buF .abs [.int i] = some (.int (i.natAbs : Int)) := by
  show some (D.int (if i < 0 then -i else i)) = _
  congr 2
  split <;> omega
theorem bu_int (i : Int) : buF .int [.int i] = some (.int i) := rfl
theorem bu_lenT (l : List D) : buF .len [.tup l] = some (.int l.length) := rfl
theorem bu_lenL (l : List D) : buF .len [.lst l] = some (.int l.length) := rfl
theorem bu_tupT (l : List D) : buF .tuple [.tup l] = some (.tup l) := rfl
theorem bu_tupL (l : List D) : buF .tuple [.lst l] = some (.tup l) := rfl
theorem isi_lt (l : List D) : isiF (.tup l) .listTuple = some true := rfl
theorem isi_ll (l : List D) : isiF (.lst l) .listTuple = some true := rfl
theorem isi_ii (i : Int) : isiF (.int i) .int = some true := rfl
theorem isi_ib (i : Int) : isiF (.int i) .bool = some false := rfl
theorem isi_bi (b : Bool) : isiF (.bl b) .int = some true := rfl
theorem isi_bb (b : Bool) : isiF (.bl b) .bool = some true := rfl
/-- sizes -/
def Sz (n : Nat) (i : Int) : Prop := i.natAbs < 2 ^ n
theorem Sz.log {n : Nat} {i : Int} (h : Sz n i) (h0 : 0 < n) : i.natAbs.log2 < n := by
  by_cases z : i.natAbs = 0
  · rw [z]; simpa using h0
  · exact (Nat.log2_lt z).mpr h
theorem Sz.mono {m n : Nat} {i : Int} (h : Sz m i) (k : m ≤ n) : Sz n i := Nat.lt_of_lt_of_le h (Nat.pow_le_pow_right (by decide) k)
theorem Sz.mul {m n : Nat} {i j : Int} (a : Sz m i) (b : Sz n j) : Sz (m + n) (i * j) := by
  unfold Sz at *
  rw [Int.natAbs_mul, Nat.pow_add]
  exact Nat.mul_lt_mul'' a b
theorem Sz.add {n : Nat} {i j : Int} (a : Sz n i) (b : Sz n j) : Sz (n + 1) (i + j) := by
  unfold Sz at *
  rw [Nat.pow_succ]
  omega
theorem Sz.sub {n : Nat} {i j : Int} (a : Sz n i) (b : Sz n j) : Sz (n + 1) (i - j) := by
  unfold Sz at *
  rw [Nat.pow_succ]
  omega
theorem mul_ok {m n : Nat} {i j : Int} (a : Sz m i) (b : Sz n j) (h : m + n ≤ 900000) : mulOk i j = true := by
  unfold mulOk
  have h1 := (a.mono (Nat.le_succ m)).log (Nat.succ_pos m)
  have h2 := (b.mono (Nat.le_succ n)).log (Nat.succ_pos n)
  exact decide_eq_true (by omega)
theorem div_ok {n : Nat} {j : Int} (a : Sz n j) (h : n ≤ 8000) (h0 : 0 < j) : divOk j = true := by
  unfold divOk
  have h2 := (a.mono (Nat.le_succ n)).log (Nat.succ_pos n)
  rw [Bool.and_eq_true]
  exact ⟨decide_eq_true h0, decide_eq_true (by omega)⟩
/-- a fraction in lowest terms -/
def D.rat (q : Rat) : D := .tup [.int q.num, .int (q.den : Int)]
structure Bd (n : Nat) (q : Rat) : Prop where
  num : Sz n q.num
  den : Sz n (q.den : Int)
theorem Bd.mono {m n : Nat} {q : Rat} (h : Bd m q) (k : m ≤ n) : Bd n q := ⟨h.num.mono k, h.den.mono k⟩
theorem rat_div (a : Int) (b : Nat) (h : b ≠ 0) : ((a : Rat) / (b : Rat)).num = a / ((a.natAbs.gcd b : Nat) : Int) ∧ ((a : Rat) / (b : Rat)).den = b / a.natAbs.gcd b := by
  rw [← Rat.mkRat_eq_div, Rat.mkRat_def, dif_neg h, Rat.normalize_eq h]
  exact ⟨rfl, rfl⟩
theorem bd_div {n : Nat} {a : Int} {b : Nat} (h : b ≠ 0) (ha : Sz n a) (hb : Sz n (b : Int)) : Bd n ((a : Rat) / (b : Rat)) := by
  obtain ⟨e1, e2⟩ := rat_div a b h
  have gp : 0 < a.natAbs.gcd b := Nat.gcd_pos_of_pos_right _ (Nat.pos_of_ne_zero h)
  constructor
  · unfold Sz at *
    rw [e1, Int.natAbs_ediv_of_dvd (Int.ofNat_dvd_left.mpr (Nat.gcd_dvd_left _ _))]
    exact Nat.lt_of_le_of_lt (Nat.div_le_self _ _) ha
  · unfold Sz at *
    rw [e2]
    exact Nat.lt_of_le_of_lt (Nat.div_le_self _ _) hb
theorem lowest_eq {n : Nat} {a : Int} {b : Nat} (w : Pn) (h : b ≠ 0) (hb : Sz n (b : Int)) (hn : n ≤ 8000) : lowest_ofF [.int a, .int (b : Int)] w = some (.ok (D.rat ((a : Rat) / (b : Rat))) w) := by
  obtain ⟨e1, e2⟩ := rat_div a b h
  have gp : 0 < a.natAbs.gcd b := Nat.gcd_pos_of_pos_right _ (Nat.pos_of_ne_zero h)
  have gl : a.natAbs.gcd b ≤ b := Nat.gcd_le_right _ (Nat.pos_of_ne_zero h)
  have hg : divOk ((a.natAbs.gcd b : Nat) : Int) = true := div_ok (n := n) (by unfold Sz at *; simp only [Int.natAbs_natCast] at *; omega) hn (by omega)
  have hd : ((b : Int) / ((a.natAbs.gcd b : Nat) : Int)) = ((b / a.natAbs.gcd b : Nat) : Int) := by simp
  simp only [fnF, List.length_cons, List.length_nil, Nat.reduceAdd, Nat.reduceSub, if_true, start_eq, List.map_cons, List.map_nil, List.cons_append, List.nil_append, List.append_nil, List.replicate, scons, snil_eq, spass_eq, sasg, sret, sexpr, site, srais, saug, spar2, spar3, xbui, xbin, xcmp, xneg, xidx, xtup, xlst, xcall, xisi, xnot, xand, xor, xife, xtru, xcst, tand, tor, tnot, tyes, acons, anil, xvar, slot_z, slot_s, mslot_z, mslot_s, opt_some, bnd_ok, bu_gcd, Int.natAbs_natCast, setT, List.set_cons_succ, List.set_cons_zero, Option.map_some, small0, small1, small2, small3, idx_tup, idx_lst, at2_0, at2_1, at1_0, bo_add, bo_sub, co_lt, co_le, co_gt, co_ge, co_isN, ne_int, eqc_int, tru_bl, tru_int, tru_non, tru_lst, bu_int, bu_abs, bu_lenT, bu_lenL, bu_tupT, bu_tupL, isi_lt, isi_ll, isi_ii, isi_ib, isi_bi, isi_bb, decide_true, decide_false, Bool.not_true, Bool.not_false, Bool.false_eq_true, if_false, D.isNon, negF, lowest_ofF, lowest_ofB, bo_fdiv hg, hd]
  unfold D.rat
  rw [e1, e2]
theorem rat_num_den (q : Rat) : (q.num : Rat) / (q.den : Rat) = q := by
  rw [← Rat.mkRat_eq_div]; exact Rat.mkRat_self q
theorem den0 (q : Rat) : ((q.den : Nat) : Rat) ≠ 0 := by
  have := q.den_nz
  exact fun z => this (by exact_mod_cast z)
theorem add_eq (p q : Rat) : (((p.num * (q.den : Int) + q.num * (p.den : Int) : Int)) : Rat) / ((p.den * q.den : Nat) : Rat) = p + q := by
  rw [← Rat.mkRat_eq_div, Rat.add_def']
theorem mul_eq (p : Rat) (k : Int) : ((p.num * k : Int) : Rat) / ((p.den : Nat) : Rat) = p * (k : Rat) := by
  rw [← Rat.mkRat_eq_div, Rat.mul_def']
  simp
theorem bd_add {m n : Nat} {p q : Rat} (a : Bd m p) (b : Bd n q) : Bd (m + n + 1) (p + q) := by
  rw [← add_eq]
  have h1 := a.num.mul b.den
  have h2 := b.num.mul a.den
  rw [Nat.add_comm n m] at h2
  refine bd_div (Nat.mul_ne_zero p.den_nz q.den_nz) (h1.add h2) (Sz.mono (m := m + n) ?_ (Nat.le_succ _))
  have := a.den.mul b.den
  rwa [← Int.natCast_mul] at this
theorem bd_mul {m n : Nat} {p : Rat} {k : Int} (a : Bd m p) (b : Sz n k) : Bd (m + n) (p * (k : Rat)) := by
  rw [← mul_eq]
  exact bd_div p.den_nz (a.num.mul b) (a.den.mono (Nat.le_add_right _ _))
theorem plus_eq {m n : Nat} {p q : Rat} (w : Pn) (a : Bd m p) (b : Bd n q) (h : m + n ≤ 8000) : plusF [D.rat p, D.rat q] w = some (.ok (D.rat (p + q)) w) := by
  have h1 := mul_ok a.num b.den (by omega)
  have h2 := mul_ok b.num a.den (by omega)
  have h3 := mul_ok a.den b.den (by omega)
  have h4 := a.den.mul b.den
  rw [← Int.natCast_mul] at h4
  have e := lowest_eq (a := p.num * (q.den : Int) + q.num * (p.den : Int)) w (Nat.mul_ne_zero p.den_nz q.den_nz) h4 h
  rw [add_eq, Int.natCast_mul] at e
  unfold D.rat at *
  simp only [fnF, List.length_cons, List.length_nil, Nat.reduceAdd, Nat.reduceSub, if_true, start_eq, List.map_cons, List.map_nil, List.cons_append, List.nil_append, List.append_nil, List.replicate, scons, snil_eq, spass_eq, sasg, sret, sexpr, site, srais, saug, spar2, spar3, xbui, xbin, xcmp, xneg, xidx, xtup, xlst, xcall, xisi, xnot, xand, xor, xife, xtru, xcst, tand, tor, tnot, tyes, acons, anil, xvar, slot_z, slot_s, mslot_z, mslot_s, opt_some, bnd_ok, bu_gcd, Int.natAbs_natCast, setT, List.set_cons_succ, List.set_cons_zero, Option.map_some, small0, small1, small2, small3, idx_tup, idx_lst, at2_0, at2_1, at1_0, bo_add, bo_sub, co_lt, co_le, co_gt, co_ge, co_isN, ne_int, eqc_int, tru_bl, tru_int, tru_non, tru_lst, bu_int, bu_abs, bu_lenT, bu_lenL, bu_tupT, bu_tupL, isi_lt, isi_ll, isi_ii, isi_ib, isi_bi, isi_bb, decide_true, decide_false, Bool.not_true, Bool.not_false, Bool.false_eq_true, if_false, D.isNon, negF, plusF, plusB, bo_mul h1, bo_mul h2, bo_mul h3, e]
theorem times_eq {m n : Nat} {p : Rat} {k : Int} (w : Pn) (a : Bd m p) (b : Sz n k) (h : m + n ≤ 8000) : timesF [D.rat p, .int k] w = some (.ok (D.rat (p * (k : Rat))) w) := by
  have h1 := mul_ok a.num b (by omega)
  have e := lowest_eq (a := p.num * k) w p.den_nz a.den (by omega)
  rw [mul_eq] at e
  unfold D.rat at *
  simp only [fnF, List.length_cons, List.length_nil, Nat.reduceAdd, Nat.reduceSub, if_true, start_eq, List.map_cons, List.map_nil, List.cons_append, List.nil_append, List.append_nil, List.replicate, scons, snil_eq, spass_eq, sasg, sret, sexpr, site, srais, saug, spar2, spar3, xbui, xbin, xcmp, xneg, xidx, xtup, xlst, xcall, xisi, xnot, xand, xor, xife, xtru, xcst, tand, tor, tnot, tyes, acons, anil, xvar, slot_z, slot_s, mslot_z, mslot_s, opt_some, bnd_ok, bu_gcd, Int.natAbs_natCast, setT, List.set_cons_succ, List.set_cons_zero, Option.map_some, small0, small1, small2, small3, idx_tup, idx_lst, at2_0, at2_1, at1_0, bo_add, bo_sub, co_lt, co_le, co_gt, co_ge, co_isN, ne_int, eqc_int, tru_bl, tru_int, tru_non, tru_lst, bu_int, bu_abs, bu_lenT, bu_lenL, bu_tupT, bu_tupL, isi_lt, isi_ll, isi_ii, isi_ib, isi_bi, isi_bb, decide_true, decide_false, Bool.not_true, Bool.not_false, Bool.false_eq_true, if_false, D.isNon, negF, timesF, timesB, bo_mul h1, e]
end Rh
set_option Elab.async false
set_option linter.all false
set_option maxRecDepth 100000
set_option maxHeartbeats 4000000
/-! Rh: the law's own fractions. -/
namespace Rh
open PySem L2
theorem gcd_loop (w : Pn) : ∀ (k : Nat) (x y fuel : Nat), y < 2 ^ k → 2 * k + 1 ≤ fuel →
    whlN (xtru (xcmp .ne (xvar 1) (xcst (.int 0)))) (scons (spar2 0 1 (xvar 1) (xbin .mod (xbui .int (acons (xvar 0) anil)) (xvar 1))) snil) fuel [some (.val (.int (x : Int))), some (.val (.int (y : Int)))] w
      = some (.ok (.nx [some (.val (.int ((x.gcd y : Nat) : Int))), some (.val (.int 0))]) w) := by
  have stop : ∀ (x fuel : Nat), 1 ≤ fuel → whlN (xtru (xcmp .ne (xvar 1) (xcst (.int 0)))) (scons (spar2 0 1 (xvar 1) (xbin .mod (xbui .int (acons (xvar 0) anil)) (xvar 1))) snil) fuel [some (.val (.int (x : Int))), some (.val (.int ((0 : Nat) : Int)))] w
      = some (.ok (.nx [some (.val (.int ((x.gcd 0 : Nat) : Int))), some (.val (.int 0))]) w) := by
    intro x fuel h
    obtain ⟨f, rfl⟩ : ∃ f, fuel = f + 1 := ⟨fuel - 1, by omega⟩
    unfold whlN
    simp only [fnF, List.length_cons, List.length_nil, Nat.reduceAdd, Nat.reduceSub, if_true, start_eq, List.map_cons, List.map_nil, List.cons_append, List.nil_append, List.append_nil, List.replicate, scons, snil_eq, spass_eq, sasg, sret, sexpr, site, srais, saug, spar2, spar3, xbui, xbin, xcmp, xneg, xidx, xtup, xlst, xcall, xisi, xnot, xand, xor, xife, xtru, xcst, tand, tor, tnot, tyes, acons, anil, xvar, slot_z, slot_s, mslot_z, mslot_s, opt_some, bnd_ok, bu_gcd, Int.natAbs_natCast, setT, List.set_cons_succ, List.set_cons_zero, Option.map_some, small0, small1, small2, small3, idx_tup, idx_lst, at2_0, at2_1, at1_0, bo_add, bo_sub, co_lt, co_le, co_gt, co_ge, co_isN, ne_int, eqc_int, tru_bl, tru_int, tru_non, tru_lst, bu_int, bu_abs, bu_lenT, bu_lenL, bu_tupT, bu_tupL, isi_lt, isi_ll, isi_ii, isi_ib, isi_bi, isi_bb, decide_true, decide_false, Bool.not_true, Bool.not_false, Bool.false_eq_true, if_false, D.isNon, negF, ne_int]
    simp
  have step : ∀ (x y fuel : Nat), 0 < y → whlN (xtru (xcmp .ne (xvar 1) (xcst (.int 0)))) (scons (spar2 0 1 (xvar 1) (xbin .mod (xbui .int (acons (xvar 0) anil)) (xvar 1))) snil) (fuel + 1) [some (.val (.int (x : Int))), some (.val (.int (y : Int)))] w
      = whlN (xtru (xcmp .ne (xvar 1) (xcst (.int 0)))) (scons (spar2 0 1 (xvar 1) (xbin .mod (xbui .int (acons (xvar 0) anil)) (xvar 1))) snil) fuel [some (.val (.int (y : Int))), some (.val (.int ((x % y : Nat) : Int)))] w := by
    intro x y fuel hy
    have h1 : ((y : Int) == 0) = false := by rw [beq_eq_false_iff_ne]; omega
    have h2 : (0 : Int) < (y : Int) := by omega
    rw [whlN]
    simp only [fnF, List.length_cons, List.length_nil, Nat.reduceAdd, Nat.reduceSub, if_true, start_eq, List.map_cons, List.map_nil, List.cons_append, List.nil_append, List.append_nil, List.replicate, scons, snil_eq, spass_eq, sasg, sret, sexpr, site, srais, saug, spar2, spar3, xbui, xbin, xcmp, xneg, xidx, xtup, xlst, xcall, xisi, xnot, xand, xor, xife, xtru, xcst, tand, tor, tnot, tyes, acons, anil, xvar, slot_z, slot_s, mslot_z, mslot_s, opt_some, bnd_ok, bu_gcd, Int.natAbs_natCast, setT, List.set_cons_succ, List.set_cons_zero, Option.map_some, small0, small1, small2, small3, idx_tup, idx_lst, at2_0, at2_1, at1_0, bo_add, bo_sub, co_lt, co_le, co_gt, co_ge, co_isN, ne_int, eqc_int, tru_bl, tru_int, tru_non, tru_lst, bu_int, bu_abs, bu_lenT, bu_lenL, bu_tupT, bu_tupL, isi_lt, isi_ll, isi_ii, isi_ib, isi_bi, isi_bb, decide_true, decide_false, Bool.not_true, Bool.not_false, Bool.false_eq_true, if_false, D.isNon, negF, ne_int, h1, bu_int, bo_mod h2]
    rw [Int.natCast_emod]
  intro k
  induction k with
  | zero =>
    intro x y fuel hy hf
    have : y = 0 := by simpa using hy
    subst this
    exact stop x fuel (by omega)
  | succ k ih =>
    intro x y fuel hy hf
    by_cases h0 : y = 0
    · subst h0; exact stop x fuel (by omega)
    · obtain ⟨f, rfl⟩ : ∃ f, fuel = (f + 1) + 1 := ⟨fuel - 2, by omega⟩
      have hp : 0 < y := Nat.pos_of_ne_zero h0
      rw [step x y (f + 1) hp]
      have hr : x % y < y := Nat.mod_lt _ hp
      have e : x.gcd y = y.gcd (x % y) := by rw [Nat.gcd_comm, Nat.gcd_rec, Nat.gcd_comm]
      by_cases h1 : x % y = 0
      · rw [h1] at e ⊢
        rw [e]
        exact stop y (f + 1) (by omega)
      · have hp1 : 0 < x % y := Nat.pos_of_ne_zero h1
        rw [step y (x % y) f hp1]
        have e2 : y.gcd (x % y) = (x % y).gcd (y % (x % y)) := by rw [Nat.gcd_comm, Nat.gcd_rec, Nat.gcd_comm]
        rw [e, e2]
        refine ih _ _ _ ?_ (by omega)
        have hm : y % (x % y) < x % y := Nat.mod_lt _ hp1
        have hs : y % (x % y) + x % y ≤ y := by
          have := Nat.div_add_mod y (x % y)
          have h3 : 1 ≤ y / (x % y) := Nat.div_pos (Nat.le_of_lt hr) hp1
          have h4 : (x % y) * 1 ≤ (x % y) * (y / (x % y)) := Nat.mul_le_mul_left _ h3
          omega
        rw [Nat.pow_succ] at hy
        omega
theorem law_gcd_eq {n : Nat} {a b : Int} (w : Pn) (hb : Sz n b) (hn : n ≤ 8000) : law_gcdF [.int a, .int b] w = some (.ok (.int ((a.natAbs.gcd b.natAbs : Nat) : Int)) w) := by
  have g := gcd_loop w n a.natAbs b.natAbs 200000 hb (by omega)
  simp only [fnF, List.length_cons, List.length_nil, Nat.reduceAdd, Nat.reduceSub, if_true, start_eq, List.map_cons, List.map_nil, List.cons_append, List.nil_append, List.append_nil, List.replicate, scons, snil_eq, spass_eq, sasg, sret, sexpr, site, srais, saug, spar2, spar3, xbui, xbin, xcmp, xneg, xidx, xtup, xlst, xcall, xisi, xnot, xand, xor, xife, xtru, xcst, tand, tor, tnot, tyes, acons, anil, xvar, slot_z, slot_s, mslot_z, mslot_s, opt_some, bnd_ok, bu_gcd, Int.natAbs_natCast, setT, List.set_cons_succ, List.set_cons_zero, Option.map_some, small0, small1, small2, small3, idx_tup, idx_lst, at2_0, at2_1, at1_0, bo_add, bo_sub, co_lt, co_le, co_gt, co_ge, co_isN, ne_int, eqc_int, tru_bl, tru_int, tru_non, tru_lst, bu_int, bu_abs, bu_lenT, bu_lenL, bu_tupT, bu_tupL, isi_lt, isi_ll, isi_ii, isi_ib, isi_bi, isi_bb, decide_true, decide_false, Bool.not_true, Bool.not_false, Bool.false_eq_true, if_false, D.isNon, negF, law_gcdF, law_gcdB, bu_abs, swhl, g]
theorem law_frac_eq {n : Nat} {a : Int} {b : Nat} (w : Pn) (h : b ≠ 0) (hb : Sz n (b : Int)) (hn : n ≤ 8000) : law_fracF [.int a, .int (b : Int)] w = some (.ok (D.rat ((a : Rat) / (b : Rat))) w) := by
  obtain ⟨e1, e2⟩ := rat_div a b h
  have gp : 0 < a.natAbs.gcd b := Nat.gcd_pos_of_pos_right _ (Nat.pos_of_ne_zero h)
  have gl : a.natAbs.gcd b ≤ b := Nat.gcd_le_right _ (Nat.pos_of_ne_zero h)
  have hg : divOk ((a.natAbs.gcd b : Nat) : Int) = true := div_ok (n := n) (by unfold Sz at *; simp only [Int.natAbs_natCast] at *; omega) hn (by omega)
  have hd : ((b : Int) / ((a.natAbs.gcd b : Nat) : Int)) = ((b / a.natAbs.gcd b : Nat) : Int) := by simp
  have e := law_gcd_eq (a := a) w hb hn
  simp only [Int.natAbs_natCast] at e
  simp only [fnF, List.length_cons, List.length_nil, Nat.reduceAdd, Nat.reduceSub, if_true, start_eq, List.map_cons, List.map_nil, List.cons_append, List.nil_append, List.append_nil, List.replicate, scons, snil_eq, spass_eq, sasg, sret, sexpr, site, srais, saug, spar2, spar3, xbui, xbin, xcmp, xneg, xidx, xtup, xlst, xcall, xisi, xnot, xand, xor, xife, xtru, xcst, tand, tor, tnot, tyes, acons, anil, xvar, slot_z, slot_s, mslot_z, mslot_s, opt_some, bnd_ok, bu_gcd, Int.natAbs_natCast, setT, List.set_cons_succ, List.set_cons_zero, Option.map_some, small0, small1, small2, small3, idx_tup, idx_lst, at2_0, at2_1, at1_0, bo_add, bo_sub, co_lt, co_le, co_gt, co_ge, co_isN, ne_int, eqc_int, tru_bl, tru_int, tru_non, tru_lst, bu_int, bu_abs, bu_lenT, bu_lenL, bu_tupT, bu_tupL, isi_lt, isi_ll, isi_ii, isi_ib, isi_bi, isi_bb, decide_true, decide_false, Bool.not_true, Bool.not_false, Bool.false_eq_true, if_false, D.isNon, negF, law_fracF, law_fracB, e, bo_fdiv hg, hd]
  unfold D.rat
  rw [e1, e2]
theorem sum_eq (p q : Rat) (k : Int) : (((p.num * (q.den : Int) + k * q.num * (p.den : Int) : Int)) : Rat) / ((p.den * q.den : Nat) : Rat) = p + q * (k : Rat) := by
  have hp := den0 p
  have hq := den0 q
  have e1 := rat_num_den p
  have e2 := rat_num_den q
  have e3 : ((p.num : Int) : Rat) = p * ((p.den : Nat) : Rat) := by rw [← Rat.div_mul_cancel hp (a := ((p.num : Int) : Rat)), e1]
  have e4 : ((q.num : Int) : Rat) = q * ((q.den : Nat) : Rat) := by rw [← Rat.div_mul_cancel hq (a := ((q.num : Int) : Rat)), e2]
  have h : (((p.num * (q.den : Int) + k * q.num * (p.den : Int) : Int)) : Rat) = (p + q * (k : Rat)) * ((p.den * q.den : Nat) : Rat) := by
    push_cast
    rw [e3, e4]
    grind
  rw [h, Rat.mul_div_cancel]
  push_cast
  intro z
  rcases Rat.mul_eq_zero.mp z with z | z
  · exact hp z
  · exact hq z
theorem law_sum_eq {m n c : Nat} {p q : Rat} {k : Int} (w : Pn) (a : Bd m p) (b : Bd n q) (hk : Sz c k) (h : m + n + c ≤ 8000) : law_sumF [D.rat p, D.rat q, .int k] w = some (.ok (D.rat (p + q * (k : Rat))) w) := by
  have h1 := mul_ok a.num b.den (by omega)
  have h2 := mul_ok hk b.num (by omega)
  have h22 := mul_ok (hk.mul b.num) a.den (by omega)
  have h3 := mul_ok a.den b.den (by omega)
  have h4 := a.den.mul b.den
  rw [← Int.natCast_mul] at h4
  have e := law_frac_eq (a := p.num * (q.den : Int) + k * q.num * (p.den : Int)) w (Nat.mul_ne_zero p.den_nz q.den_nz) h4 (by omega)
  rw [sum_eq, Int.natCast_mul] at e
  unfold D.rat at *
  simp only [fnF, List.length_cons, List.length_nil, Nat.reduceAdd, Nat.reduceSub, if_true, start_eq, List.map_cons, List.map_nil, List.cons_append, List.nil_append, List.append_nil, List.replicate, scons, snil_eq, spass_eq, sasg, sret, sexpr, site, srais, saug, spar2, spar3, xbui, xbin, xcmp, xneg, xidx, xtup, xlst, xcall, xisi, xnot, xand, xor, xife, xtru, xcst, tand, tor, tnot, tyes, acons, anil, xvar, slot_z, slot_s, mslot_z, mslot_s, opt_some, bnd_ok, bu_gcd, Int.natAbs_natCast, setT, List.set_cons_succ, List.set_cons_zero, Option.map_some, small0, small1, small2, small3, idx_tup, idx_lst, at2_0, at2_1, at1_0, bo_add, bo_sub, co_lt, co_le, co_gt, co_ge, co_isN, ne_int, eqc_int, tru_bl, tru_int, tru_non, tru_lst, bu_int, bu_abs, bu_lenT, bu_lenL, bu_tupT, bu_tupL, isi_lt, isi_ll, isi_ii, isi_ib, isi_bi, isi_bb, decide_true, decide_false, Bool.not_true, Bool.not_false, Bool.false_eq_true, if_false, D.isNon, negF, law_sumF, law_sumB, bo_mul h1, bo_mul h2, bo_mul h22, bo_mul h3, e]
theorem law_am_eq {m n : Nat} {p q : Rat} (w : Pn) (a : Bd m p) (b : Bd n q) (h : m + n ≤ 8000) : law_is_at_mostF [D.rat p, D.rat q] w = some (.ok (.bl (decide (p ≤ q))) w) := by
  have h1 := mul_ok a.num b.den (by omega)
  have h2 := mul_ok b.num a.den (by omega)
  have e : decide (p.num * (q.den : Int) ≤ q.num * (p.den : Int)) = decide (p ≤ q) := decide_eq_decide.mpr (Rat.le_iff p q).symm
  unfold D.rat
  simp only [fnF, List.length_cons, List.length_nil, Nat.reduceAdd, Nat.reduceSub, if_true, start_eq, List.map_cons, List.map_nil, List.cons_append, List.nil_append, List.append_nil, List.replicate, scons, snil_eq, spass_eq, sasg, sret, sexpr, site, srais, saug, spar2, spar3, xbui, xbin, xcmp, xneg, xidx, xtup, xlst, xcall, xisi, xnot, xand, xor, xife, xtru, xcst, tand, tor, tnot, tyes, acons, anil, xvar, slot_z, slot_s, mslot_z, mslot_s, opt_some, bnd_ok, bu_gcd, Int.natAbs_natCast, setT, List.set_cons_succ, List.set_cons_zero, Option.map_some, small0, small1, small2, small3, idx_tup, idx_lst, at2_0, at2_1, at1_0, bo_add, bo_sub, co_lt, co_le, co_gt, co_ge, co_isN, ne_int, eqc_int, tru_bl, tru_int, tru_non, tru_lst, bu_int, bu_abs, bu_lenT, bu_lenL, bu_tupT, bu_tupL, isi_lt, isi_ll, isi_ii, isi_ib, isi_bi, isi_bb, decide_true, decide_false, Bool.not_true, Bool.not_false, Bool.false_eq_true, if_false, D.isNon, negF, law_is_at_mostF, law_is_at_mostB, bo_mul h1, bo_mul h2, e]
end Rh
set_option Elab.async false
set_option linter.all false
set_option maxRecDepth 100000
set_option maxHeartbeats 4000000
/-! Rh: rays, points, worths. -/
namespace Rh
open PySem L2
theorem rat_zero : D.rat 0 = .tup [.int 0, .int 1] := rfl
theorem bd_zero : Bd 1 (0 : Rat) := ⟨by unfold Sz; decide, by unfold Sz; decide⟩
def r1 (a : Int) : D := .tup [.int a]
def r2 (a b : Int) : D := .tup [.int a, .int b]
def p1 (x : Rat) : D := .tup [D.rat x]
def p2 (x y : Rat) : D := .tup [D.rat x, D.rat y]
def dot1 (a : Int) (x : Rat) : Rat := x * (a : Rat)
def dot2 (a b : Int) (x y : Rat) : Rat := x * (a : Rat) + y * (b : Rat)
theorem bd_dot1 {n : Nat} {a : Int} {x : Rat} (hx : Bd n x) (ha : Sz 4 a) : Bd (n + 4) (dot1 a x) := bd_mul hx ha
theorem bd_dot2 {n : Nat} {a b : Int} {x y : Rat} (hx : Bd n x) (hy : Bd n y) (ha : Sz 4 a) (hb : Sz 4 b) : Bd (2 * n + 9) (dot2 a b x y) :=
  (bd_add (bd_mul hx ha) (bd_mul hy hb)).mono (by omega)
theorem zip1 (a : D) (x : D) : zipL [a] [x] = [.tup [a, x]] := rfl
theorem zip2 (a b : D) (x y : D) : zipL [a, b] [x, y] = [.tup [a, x], .tup [b, y]] := rfl
theorem seq_t (l : List D) : seqOf (.tup l) = some l := rfl
theorem seq_l (l : List D) : seqOf (.lst l) = some l := rfl
theorem setTs2 (σ : En) (i j : Nat) (a b : D) : setTs σ [i, j] [a, b] = some ((σ.set i (some (.val a))).set j (some (.val b))) := rfl
theorem worth_by1 {n : Nat} {a : Int} {x : Rat} (w : Pn) (hx : Bd n x) (ha : Sz 4 a) (h : n ≤ 3000) : worth_byF [r1 a, p1 x] w = some (.ok (D.rat (dot1 a x)) w) := by
  have e1 := times_eq w hx ha (by omega)
  have e2 := plus_eq (q := x * (a : Rat)) w bd_zero (bd_mul hx ha) (by omega)
  rw [Rat.zero_add, rat_zero] at e2
  unfold r1 p1
  simp only [fnF, List.length_cons, List.length_nil, Nat.reduceAdd, Nat.reduceSub, if_true, start_eq, List.map_cons, List.map_nil, List.cons_append, List.nil_append, List.append_nil, List.replicate, scons, snil_eq, spass_eq, sasg, sret, sexpr, site, srais, saug, spar2, spar3, xbui, xbin, xcmp, xneg, xidx, xtup, xlst, xcall, xisi, xnot, xand, xor, xife, xtru, xcst, tand, tor, tnot, tyes, acons, anil, xvar, slot_z, slot_s, mslot_z, mslot_s, opt_some, bnd_ok, bu_gcd, Int.natAbs_natCast, setT, List.set_cons_succ, List.set_cons_zero, Option.map_some, small0, small1, small2, small3, idx_tup, idx_lst, at2_0, at2_1, at1_0, bo_add, bo_sub, co_lt, co_le, co_gt, co_ge, co_isN, ne_int, eqc_int, tru_bl, tru_int, tru_non, tru_lst, bu_int, bu_abs, bu_lenT, bu_lenL, bu_tupT, bu_tupL, isi_lt, isi_ll, isi_ii, isi_ib, isi_bi, isi_bb, decide_true, decide_false, Bool.not_true, Bool.not_false, Bool.false_eq_true, if_false, D.isNon, negF, worth_byF, worth_byB, sfor, srcZip, seq_t, zip1, forL, setTs2, e1, e2]
  rfl
theorem worth_by2 {n : Nat} {a b : Int} {x y : Rat} (w : Pn) (hx : Bd n x) (hy : Bd n y) (ha : Sz 4 a) (hb : Sz 4 b) (h : n ≤ 3000) : worth_byF [r2 a b, p2 x y] w = some (.ok (D.rat (dot2 a b x y)) w) := by
  have e1 := times_eq w hx ha (by omega)
  have e2 := plus_eq (q := x * (a : Rat)) w bd_zero (bd_mul hx ha) (by omega)
  have e3 := times_eq w hy hb (by omega)
  have e4 := plus_eq w (bd_mul hx ha) (bd_mul hy hb) (by omega)
  rw [Rat.zero_add, rat_zero] at e2
  unfold r2 p2
  simp only [fnF, List.length_cons, List.length_nil, Nat.reduceAdd, Nat.reduceSub, if_true, start_eq, List.map_cons, List.map_nil, List.cons_append, List.nil_append, List.append_nil, List.replicate, scons, snil_eq, spass_eq, sasg, sret, sexpr, site, srais, saug, spar2, spar3, xbui, xbin, xcmp, xneg, xidx, xtup, xlst, xcall, xisi, xnot, xand, xor, xife, xtru, xcst, tand, tor, tnot, tyes, acons, anil, xvar, slot_z, slot_s, mslot_z, mslot_s, opt_some, bnd_ok, bu_gcd, Int.natAbs_natCast, setT, List.set_cons_succ, List.set_cons_zero, Option.map_some, small0, small1, small2, small3, idx_tup, idx_lst, at2_0, at2_1, at1_0, bo_add, bo_sub, co_lt, co_le, co_gt, co_ge, co_isN, ne_int, eqc_int, tru_bl, tru_int, tru_non, tru_lst, bu_int, bu_abs, bu_lenT, bu_lenL, bu_tupT, bu_tupL, isi_lt, isi_ll, isi_ii, isi_ib, isi_bi, isi_bb, decide_true, decide_false, Bool.not_true, Bool.not_false, Bool.false_eq_true, if_false, D.isNon, negF, worth_byF, worth_byB, sfor, srcZip, seq_t, zip2, forL, setTs2, e1, e2, e3, e4]
  rfl
theorem law_worth1 {n : Nat} {a : Int} {x : Rat} (w : Pn) (hx : Bd n x) (ha : Sz 4 a) (h : n ≤ 3000) : law_worthF [r1 a, p1 x] w = some (.ok (D.rat (dot1 a x)) w) := by
  have e2 := law_sum_eq w bd_zero hx ha (by omega)
  rw [Rat.zero_add, rat_zero] at e2
  unfold r1 p1
  simp only [fnF, List.length_cons, List.length_nil, Nat.reduceAdd, Nat.reduceSub, if_true, start_eq, List.map_cons, List.map_nil, List.cons_append, List.nil_append, List.append_nil, List.replicate, scons, snil_eq, spass_eq, sasg, sret, sexpr, site, srais, saug, spar2, spar3, xbui, xbin, xcmp, xneg, xidx, xtup, xlst, xcall, xisi, xnot, xand, xor, xife, xtru, xcst, tand, tor, tnot, tyes, acons, anil, xvar, slot_z, slot_s, mslot_z, mslot_s, opt_some, bnd_ok, bu_gcd, Int.natAbs_natCast, setT, List.set_cons_succ, List.set_cons_zero, Option.map_some, small0, small1, small2, small3, idx_tup, idx_lst, at2_0, at2_1, at1_0, bo_add, bo_sub, co_lt, co_le, co_gt, co_ge, co_isN, ne_int, eqc_int, tru_bl, tru_int, tru_non, tru_lst, bu_int, bu_abs, bu_lenT, bu_lenL, bu_tupT, bu_tupL, isi_lt, isi_ll, isi_ii, isi_ib, isi_bi, isi_bb, decide_true, decide_false, Bool.not_true, Bool.not_false, Bool.false_eq_true, if_false, D.isNon, negF, law_worthF, law_worthB, sfor, srcZip, seq_t, zip1, forL, setTs2, e2]
  rfl
theorem law_worth2 {n : Nat} {a b : Int} {x y : Rat} (w : Pn) (hx : Bd n x) (hy : Bd n y) (ha : Sz 4 a) (hb : Sz 4 b) (h : n ≤ 3000) : law_worthF [r2 a b, p2 x y] w = some (.ok (D.rat (dot2 a b x y)) w) := by
  have e2 := law_sum_eq w bd_zero hx ha (by omega)
  have e4 := law_sum_eq w (bd_mul hx ha) hy hb (by omega)
  rw [Rat.zero_add, rat_zero] at e2
  unfold r2 p2
  simp only [fnF, List.length_cons, List.length_nil, Nat.reduceAdd, Nat.reduceSub, if_true, start_eq, List.map_cons, List.map_nil, List.cons_append, List.nil_append, List.append_nil, List.replicate, scons, snil_eq, spass_eq, sasg, sret, sexpr, site, srais, saug, spar2, spar3, xbui, xbin, xcmp, xneg, xidx, xtup, xlst, xcall, xisi, xnot, xand, xor, xife, xtru, xcst, tand, tor, tnot, tyes, acons, anil, xvar, slot_z, slot_s, mslot_z, mslot_s, opt_some, bnd_ok, bu_gcd, Int.natAbs_natCast, setT, List.set_cons_succ, List.set_cons_zero, Option.map_some, small0, small1, small2, small3, idx_tup, idx_lst, at2_0, at2_1, at1_0, bo_add, bo_sub, co_lt, co_le, co_gt, co_ge, co_isN, ne_int, eqc_int, tru_bl, tru_int, tru_non, tru_lst, bu_int, bu_abs, bu_lenT, bu_lenL, bu_tupT, bu_tupL, isi_lt, isi_ll, isi_ii, isi_ib, isi_bi, isi_bb, decide_true, decide_false, Bool.not_true, Bool.not_false, Bool.false_eq_true, if_false, D.isNon, negF, law_worthF, law_worthB, sfor, srcZip, seq_t, zip2, forL, setTs2, e2, e4]
  rfl
end Rh
set_option Elab.async false
set_option linter.all false
set_option maxRecDepth 100000
set_option maxHeartbeats 4000000
/-! Rh: lists, comprehensions, loops; the greatest worth; fixed of rays and numbers. -/
namespace Rh
open PySem L2
theorem small_le {n : Nat} (h : n ≤ 1000000) : small n = true := by
  unfold small
  have : PySem.sizeLine = 16777216 := PySem.sizeLine_eq
  exact decide_eq_true (by omega)
def D.ray (r : List Int) : D := .tup (r.map .int)
def D.pt (p : List Rat) : D := .tup (p.map D.rat)
def dot : List Int → List Rat → Rat
  | a :: r, x :: p => x * (a : Rat) + dot r p
  | _, _ => 0
/-- a ray of k small whole numbers -/
structure RayOk (k : Nat) (r : List Int) : Prop where
  len : r.length = k
  sz : ∀ a ∈ r, Sz 4 a
structure PtOk (k n : Nat) (p : List Rat) : Prop where
  len : p.length = k
  bd : ∀ x ∈ p, Bd n x
theorem one_len {α : Type} {l : List α} (h : l.length = 1) : ∃ a, l = [a] := by
  match l, h with
  | [a], _ => exact ⟨a, rfl⟩
theorem two_len {α : Type} {l : List α} (h : l.length = 2) : ∃ a b, l = [a, b] := by
  match l, h with
  | [a, b], _ => exact ⟨a, b, rfl⟩
theorem bd_dot {k n : Nat} (hk : k = 1 ∨ k = 2) {r : List Int} {p : List Rat} (hr : RayOk k r) (hp : PtOk k n p) : Bd (2 * n + 9) (dot r p) := by
  rcases hk with rfl | rfl
  · obtain ⟨a, rfl⟩ := one_len hr.len
    obtain ⟨x, rfl⟩ := one_len hp.len
    have := bd_dot1 (hp.bd x (by simp)) (hr.sz a (by simp))
    show Bd _ (x * (a : Rat) + 0)
    rw [Rat.add_zero]
    exact this.mono (by omega)
  · obtain ⟨a, b, rfl⟩ := two_len hr.len
    obtain ⟨x, y, rfl⟩ := two_len hp.len
    have := bd_dot2 (hp.bd x (by simp)) (hp.bd y (by simp)) (hr.sz a (by simp)) (hr.sz b (by simp))
    show Bd _ (x * (a : Rat) + (y * (b : Rat) + 0))
    rw [Rat.add_zero]
    exact this
theorem worth_by_eq {k n : Nat} (hk : k = 1 ∨ k = 2) {r : List Int} {p : List Rat} (w : Pn) (hr : RayOk k r) (hp : PtOk k n p) (h : n ≤ 3000) : worth_byF [D.ray r, D.pt p] w = some (.ok (D.rat (dot r p)) w) := by
  rcases hk with rfl | rfl
  · obtain ⟨a, rfl⟩ := one_len hr.len
    obtain ⟨x, rfl⟩ := one_len hp.len
    have e : dot [a] [x] = dot1 a x := by show x * (a : Rat) + 0 = _; rw [Rat.add_zero]; rfl
    rw [e]
    exact worth_by1 w (hp.bd x (by simp)) (hr.sz a (by simp)) h
  · obtain ⟨a, b, rfl⟩ := two_len hr.len
    obtain ⟨x, y, rfl⟩ := two_len hp.len
    have e : dot [a, b] [x, y] = dot2 a b x y := by show x * (a : Rat) + (y * (b : Rat) + 0) = _; rw [Rat.add_zero]; rfl
    rw [e]
    exact worth_by2 w (hp.bd x (by simp)) (hp.bd y (by simp)) (hr.sz a (by simp)) (hr.sz b (by simp)) h
theorem law_worth_eq {k n : Nat} (hk : k = 1 ∨ k = 2) {r : List Int} {p : List Rat} (w : Pn) (hr : RayOk k r) (hp : PtOk k n p) (h : n ≤ 3000) : law_worthF [D.ray r, D.pt p] w = some (.ok (D.rat (dot r p)) w) := by
  rcases hk with rfl | rfl
  · obtain ⟨a, rfl⟩ := one_len hr.len
    obtain ⟨x, rfl⟩ := one_len hp.len
    have e : dot [a] [x] = dot1 a x := by show x * (a : Rat) + 0 = _; rw [Rat.add_zero]; rfl
    rw [e]
    exact law_worth1 w (hp.bd x (by simp)) (hr.sz a (by simp)) h
  · obtain ⟨a, b, rfl⟩ := two_len hr.len
    obtain ⟨x, y, rfl⟩ := two_len hp.len
    have e : dot [a, b] [x, y] = dot2 a b x y := by show x * (a : Rat) + (y * (b : Rat) + 0) = _; rw [Rat.add_zero]; rfl
    rw [e]
    exact law_worth2 w (hp.bd x (by simp)) (hp.bd y (by simp)) (hr.sz a (by simp)) (hr.sz b (by simp)) h
/-! ### comprehensions -/
/-- a comprehension with a test; the pen stays -/
theorem compL_filter {σ : En} {own : List Nat} {t : Tg} {c : TF} {e : XF} {w : Pn} (p : D → Bool) (g : D → D) : ∀ (l acc : List D), (∀ d ∈ l, ∃ τ, setT (wipeE σ own) t d = some τ ∧ c τ w = some (.ok (p d) w) ∧ (p d = true → e τ w = some (.ok (g d) w))) → acc.length + l.length ≤ 1000000 →
    compL σ own t c e l acc w = some (.ok (acc ++ (l.filter p).map g) w)
  | [], acc, _, _ => by simp [compL]
  | d :: r, acc, h, hl => by
    obtain ⟨τ, e1, e2, e3⟩ := h d List.mem_cons_self
    simp only [List.length_cons] at hl
    unfold compL
    simp only [e1, e2, bnd_ok]
    by_cases hp : p d = true
    · rw [if_pos hp, e3 hp]
      simp only [bnd_ok]
      rw [if_pos (small_le (by omega)), compL_filter p g r _ (fun d hd => h d (List.mem_cons_of_mem _ hd)) (by simp; omega), List.filter_cons_of_pos hp]
      simp
    · rw [if_neg hp, compL_filter p g r _ (fun d hd => h d (List.mem_cons_of_mem _ hd)) (by omega), List.filter_cons_of_neg hp]
theorem comp_filter {σ : En} {own : List Nat} {t : Tg} {s : AF} {c : TF} {e : XF} {w : Pn} {l : List D} (p : D → Bool) (g : D → D) (hs : s σ w = some (.ok l w)) (h : ∀ d ∈ l, ∃ τ, setT (wipeE σ own) t d = some τ ∧ c τ w = some (.ok (p d) w) ∧ (p d = true → e τ w = some (.ok (g d) w))) (hl : l.length ≤ 1000000) :
    xcomp own t s c e σ w = some (.ok (.lst ((l.filter p).map g)) w) := by
  unfold xcomp
  rw [hs]
  simp only [bnd_ok]
  rw [compL_filter p g l [] h (by simpa using hl)]
  simp [noEx]
theorem comp_map {σ : En} {own : List Nat} {t : Tg} {s : AF} {e : XF} {w : Pn} {l : List D} (g : D → D) (hs : s σ w = some (.ok l w)) (h : ∀ d ∈ l, ∃ τ, setT (wipeE σ own) t d = some τ ∧ e τ w = some (.ok (g d) w)) (hl : l.length ≤ 1000000) :
    xcomp own t s tyes e σ w = some (.ok (.lst (l.map g)) w) := by
  have := comp_filter (c := tyes) (fun _ => true) g hs (fun d hd => by
    obtain ⟨τ, h1, h2⟩ := h d hd
    exact ⟨τ, h1, rfl, fun _ => h2⟩) hl
  rw [List.filter_eq_self.mpr (fun _ _ => rfl)] at this
  exact this
/-- over data that stand for things -/
theorem comp_of {α : Type} {σ : En} {own : List Nat} {t : Tg} {s : AF} {e : XF} {w : Pn} (xs : List α) (f : α → D) (g : α → D) (hs : s σ w = some (.ok (xs.map f) w)) (h : ∀ x ∈ xs, ∃ τ, setT (wipeE σ own) t (f x) = some τ ∧ e τ w = some (.ok (g x) w)) (hl : xs.length ≤ 1000000) :
    xcomp own t s tyes e σ w = some (.ok (.lst (xs.map g)) w) := by
  have key : ∀ (ys : List α) (acc : List D), (∀ y ∈ ys, y ∈ xs) → acc.length + ys.length ≤ 1000000 → compL σ own t tyes e (ys.map f) acc w = some (.ok (acc ++ ys.map g) w) := by
    intro ys
    induction ys with
    | nil => intro acc _ _; simp [compL]
    | cons y r ih =>
      intro acc hm hl
      obtain ⟨τ, e1, e2⟩ := h y (hm y List.mem_cons_self)
      simp only [List.length_cons] at hl
      rw [List.map_cons]
      unfold compL
      simp only [e1, tyes, bnd_ok, if_true, e2]
      rw [if_pos (small_le (by omega)), ih _ (fun z hz => hm z (List.mem_cons_of_mem _ hz)) (by simp; omega)]
      simp
  unfold xcomp
  rw [hs]
  simp only [bnd_ok]
  rw [key xs [] (fun _ h => h) (by simpa using hl)]
  simp [noEx]
/-- a loop over data that stand for things, its state told by a fold; the pen stays -/
theorem for_fold {α β : Type} {t : Tg} {b : SF} {w : Pn} (f : α → D) (S : β → En → Prop) (step : β → α → β) : ∀ (xs : List α) (s : β) (σ : En), S s σ → (∀ x ∈ xs, ∀ s σ, S s σ → ∃ τ τ', setT σ t (f x) = some τ ∧ b τ w = some (.ok (.nx τ') w) ∧ S (step s x) τ') →
    ∃ σ', forL t b (xs.map f) σ w = some (.ok (.nx σ') w) ∧ S (xs.foldl step s) σ'
  | [], s, σ, h, _ => ⟨σ, rfl, h⟩
  | x :: xs, s, σ, h, hb => by
    obtain ⟨τ, τ', e1, e2, h2⟩ := hb x List.mem_cons_self s σ h
    obtain ⟨σ', e3, h3⟩ := for_fold f S step xs (step s x) τ' h2 fun y hy => hb y (List.mem_cons_of_mem _ hy)
    refine ⟨σ', ?_, h3⟩
    rw [List.map_cons]
    unfold forL
    simp only [e1, e2, bnd_ok, e3]
/-! ### the greatest worth -/
def great (r : List Int) : List (List Rat) → Rat
  | [] => 0
  | p :: ps => ps.foldl (fun best q => if dot r q ≤ best then best else dot r q) (dot r p)
theorem fold_ge (r : List Int) : ∀ (ps : List (List Rat)) (b : Rat), b ≤ ps.foldl (fun best q => if dot r q ≤ best then best else dot r q) b ∧ (∀ p ∈ ps, dot r p ≤ ps.foldl (fun best q => if dot r q ≤ best then best else dot r q) b) ∧
    (ps.foldl (fun best q => if dot r q ≤ best then best else dot r q) b = b ∨ ∃ p ∈ ps, ps.foldl (fun best q => if dot r q ≤ best then best else dot r q) b = dot r p)
  | [], b => ⟨Rat.le_refl, by simp, .inl rfl⟩
  | q :: ps, b => by
    rw [List.foldl_cons]
    by_cases c : dot r q ≤ b
    · rw [if_pos c]
      obtain ⟨h1, h2, h3⟩ := fold_ge r ps b
      refine ⟨h1, fun p hp => ?_, h3.imp id fun ⟨p, hp, e⟩ => ⟨p, List.mem_cons_of_mem _ hp, e⟩⟩
      rcases List.mem_cons.mp hp with z | z
      · rw [z]; exact Rat.le_trans c h1
      · exact h2 p z
    · rw [if_neg c]
      obtain ⟨h1, h2, h3⟩ := fold_ge r ps (dot r q)
      have hb : b ≤ dot r q := by grind
      refine ⟨Rat.le_trans hb h1, fun p hp => ?_, .inr ?_⟩
      · rcases List.mem_cons.mp hp with z | z
        · rw [z]; exact h1
        · exact h2 p z
      · rcases h3 with e | ⟨p, hp, e⟩
        · exact ⟨q, List.mem_cons_self, e⟩
        · exact ⟨p, List.mem_cons_of_mem _ hp, e⟩
theorem great_ge {r : List Int} {ps : List (List Rat)} {p : List Rat} (h : p ∈ ps) : dot r p ≤ great r ps := by
  cases ps with
  | nil => cases h
  | cons q ps =>
    obtain ⟨h1, h2, _⟩ := fold_ge r ps (dot r q)
    rcases List.mem_cons.mp h with z | z
    · rw [z]; exact h1
    · exact h2 p z
theorem great_is (r : List Int) {ps : List (List Rat)} (h : ps ≠ []) : ∃ p ∈ ps, great r ps = dot r p := by
  cases ps with
  | nil => exact absurd rfl h
  | cons q ps =>
    obtain ⟨_, _, h3⟩ := fold_ge r ps (dot r q)
    rcases h3 with e | ⟨p, hp, e⟩
    · exact ⟨q, List.mem_cons_self, e⟩
    · exact ⟨p, List.mem_cons_of_mem _ hp, e⟩
theorem bd_great {k n : Nat} (hk : k = 1 ∨ k = 2) {r : List Int} {ps : List (List Rat)} (hr : RayOk k r) (hp : ∀ p ∈ ps, PtOk k n p) (h : ps ≠ []) : Bd (2 * n + 9) (great r ps) := by
  obtain ⟨p, hm, e⟩ := great_is r h
  rw [e]; exact bd_dot hk hr (hp p hm)
end Rh
set_option Elab.async false
set_option linter.all false
set_option maxRecDepth 100000
set_option maxHeartbeats 4000000
/-! Rh: what the law's own functions tell: great, within, corner; is_in's loop, corner_at. -/
namespace Rh
open PySem L2
theorem cut1 {α : Type} (p : α) (ps : List α) : cutG (p :: ps) (some 1) none = ps := by
  unfold cutG HT.sIx
  simp
theorem law_great_eq {k n : Nat} (hk : k = 1 ∨ k = 2) {r : List Int} {ps : List (List Rat)} (w : Pn) (hr : RayOk k r) (hp : ∀ p ∈ ps, PtOk k n p) (h : ps ≠ []) (hn : n ≤ 1000) :
    law_greatF [D.ray r, .lst (ps.map D.pt)] w = some (.ok (D.rat (great r ps)) w) := by
  cases ps with
  | nil => exact absurd rfl h
  | cons q ps =>
    have e1 := law_worth_eq hk w hr (hp q List.mem_cons_self) (by omega)
    have hps : ∀ p ∈ ps, PtOk k n p := fun p m => hp p (List.mem_cons_of_mem _ m)
    have a0 : atI (D.pt q :: ps.map D.pt) 0 = some (D.pt q) := by
      unfold atI ixN
      simp
    obtain ⟨σ', h1, h2⟩ := for_fold (t := .nm 3) (b := scons (sasg (.nm 4) (xcall law_worthF (acons (xvar 0) (acons (xvar 3) anil)))) (scons (sasg (.nm 2) (xife (tnot (xtru (xcall law_is_at_mostF (acons (xvar 4) (acons (xvar 2) anil))))) (xvar 4) (xvar 2))) snil)) (w := w) D.pt
      (fun (b : Rat) σ => Bd (2 * n + 9) b ∧ ∃ x y, σ = [some (.val (D.ray r)), some (.val (.lst (D.pt q :: ps.map D.pt))), some (.val (D.rat b)), x, y]) (fun best p => if dot r p ≤ best then best else dot r p) ps (dot r q) [some (.val (D.ray r)), some (.val (.lst (D.pt q :: ps.map D.pt))), some (.val (D.rat (dot r q))), none, none]
      ⟨bd_dot hk hr (hp q List.mem_cons_self), none, none, rfl⟩ (by
        rintro p hm b σ ⟨hb, x, y, rfl⟩
        have e2 := law_worth_eq hk w hr (hps p hm) (by omega)
        have hd := bd_dot hk hr (hps p hm)
        have e3 := law_am_eq w hd hb (by omega)
        refine ⟨_, [some (.val (D.ray r)), some (.val (.lst (D.pt q :: ps.map D.pt))), some (.val (D.rat (if dot r p ≤ b then b else dot r p))), some (.val (D.pt p)), some (.val (D.rat (dot r p)))], rfl, ?_, ?_⟩
        · by_cases c : dot r p ≤ b
          · simp only [fnF, List.length_cons, List.length_nil, Nat.reduceAdd, Nat.reduceSub, if_true, start_eq, List.map_cons, List.map_nil, List.cons_append, List.nil_append, List.append_nil, List.replicate, scons, snil_eq, spass_eq, sasg, sret, sexpr, site, srais, saug, spar2, spar3, xbui, xbin, xcmp, xneg, xidx, xtup, xlst, xcall, xisi, xnot, xand, xor, xife, xtru, xcst, tand, tor, tnot, tyes, acons, anil, xvar, slot_z, slot_s, mslot_z, mslot_s, opt_some, bnd_ok, bu_gcd, Int.natAbs_natCast, setT, List.set_cons_succ, List.set_cons_zero, Option.map_some, small0, small1, small2, small3, idx_tup, idx_lst, at2_0, at2_1, at1_0, bo_add, bo_sub, co_lt, co_le, co_gt, co_ge, co_isN, ne_int, eqc_int, tru_bl, tru_int, tru_non, tru_lst, bu_int, bu_abs, bu_lenT, bu_lenL, bu_tupT, bu_tupL, isi_lt, isi_ll, isi_ii, isi_ib, isi_bi, isi_bb, decide_true, decide_false, Bool.not_true, Bool.not_false, Bool.false_eq_true, if_false, D.isNon, negF, e2, e3, c]
          · simp only [fnF, List.length_cons, List.length_nil, Nat.reduceAdd, Nat.reduceSub, if_true, start_eq, List.map_cons, List.map_nil, List.cons_append, List.nil_append, List.append_nil, List.replicate, scons, snil_eq, spass_eq, sasg, sret, sexpr, site, srais, saug, spar2, spar3, xbui, xbin, xcmp, xneg, xidx, xtup, xlst, xcall, xisi, xnot, xand, xor, xife, xtru, xcst, tand, tor, tnot, tyes, acons, anil, xvar, slot_z, slot_s, mslot_z, mslot_s, opt_some, bnd_ok, bu_gcd, Int.natAbs_natCast, setT, List.set_cons_succ, List.set_cons_zero, Option.map_some, small0, small1, small2, small3, idx_tup, idx_lst, at2_0, at2_1, at1_0, bo_add, bo_sub, co_lt, co_le, co_gt, co_ge, co_isN, ne_int, eqc_int, tru_bl, tru_int, tru_non, tru_lst, bu_int, bu_abs, bu_lenT, bu_lenL, bu_tupT, bu_tupL, isi_lt, isi_ll, isi_ii, isi_ib, isi_bi, isi_bb, decide_true, decide_false, Bool.not_true, Bool.not_false, Bool.false_eq_true, if_false, D.isNon, negF, e2, e3, c]
        · refine ⟨?_, _, _, rfl⟩
          split
          · exact hb
          · exact hd)
    obtain ⟨_, x, y, rfl⟩ := h2
    rw [List.map_cons]
    simp only [fnF, List.length_cons, List.length_nil, Nat.reduceAdd, Nat.reduceSub, if_true, start_eq, List.map_cons, List.map_nil, List.cons_append, List.nil_append, List.append_nil, List.replicate, scons, snil_eq, spass_eq, sasg, sret, sexpr, site, srais, saug, spar2, spar3, xbui, xbin, xcmp, xneg, xidx, xtup, xlst, xcall, xisi, xnot, xand, xor, xife, xtru, xcst, tand, tor, tnot, tyes, acons, anil, xvar, slot_z, slot_s, mslot_z, mslot_s, opt_some, bnd_ok, bu_gcd, Int.natAbs_natCast, setT, List.set_cons_succ, List.set_cons_zero, Option.map_some, small0, small1, small2, small3, idx_tup, idx_lst, at2_0, at2_1, at1_0, bo_add, bo_sub, co_lt, co_le, co_gt, co_ge, co_isN, ne_int, eqc_int, tru_bl, tru_int, tru_non, tru_lst, bu_int, bu_abs, bu_lenT, bu_lenL, bu_tupT, bu_tupL, isi_lt, isi_ll, isi_ii, isi_ib, isi_bi, isi_bb, decide_true, decide_false, Bool.not_true, Bool.not_false, Bool.false_eq_true, if_false, D.isNon, negF, law_greatF, law_greatB, a0, e1, sfor, srcSeq, xcut, cutF, cut1, seq_l, h1]
    rfl
end Rh
set_option Elab.async false
set_option linter.all false
set_option maxRecDepth 100000
set_option maxHeartbeats 4000000
/-! Rh: within, by the law. -/
namespace Rh
open PySem L2
theorem comp_ofF {α : Type} {σ : En} {own : List Nat} {t : Tg} {s : AF} {c : TF} {e : XF} {w : Pn} (xs : List α) (f : α → D) (p : α → Bool) (g : α → D) (hs : s σ w = some (.ok (xs.map f) w))
    (h : ∀ x ∈ xs, ∃ τ, setT (wipeE σ own) t (f x) = some τ ∧ c τ w = some (.ok (p x) w) ∧ (p x = true → e τ w = some (.ok (g x) w))) (hl : xs.length ≤ 1000000) :
    xcomp own t s c e σ w = some (.ok (.lst ((xs.filter p).map g)) w) := by
  have key : ∀ (ys : List α) (acc : List D), (∀ y ∈ ys, y ∈ xs) → acc.length + ys.length ≤ 1000000 → compL σ own t c e (ys.map f) acc w = some (.ok (acc ++ (ys.filter p).map g) w) := by
    intro ys
    induction ys with
    | nil => intro acc _ _; simp [compL]
    | cons y r ih =>
      intro acc hm hl
      obtain ⟨τ, e1, e2, e3⟩ := h y (hm y List.mem_cons_self)
      simp only [List.length_cons] at hl
      rw [List.map_cons]
      unfold compL
      simp only [e1, e2, bnd_ok]
      by_cases hp : p y = true
      · rw [if_pos hp, e3 hp]
        simp only [bnd_ok]
        rw [if_pos (small_le (by omega)), ih _ (fun z hz => hm z (List.mem_cons_of_mem _ hz)) (by simp; omega), List.filter_cons_of_pos hp]
        simp
      · rw [if_neg hp, ih _ (fun z hz => hm z (List.mem_cons_of_mem _ hz)) (by omega), List.filter_cons_of_neg hp]
  unfold xcomp
  rw [hs]
  simp only [bnd_ok]
  rw [key xs [] (fun _ h => h) (by simpa using hl)]
  simp [noEx]
theorem pys_ints : ∀ ns : List Int, D.pys (ns.map .int) = some (ns.map .int)
  | [] => rfl
  | n :: r => by
    rw [List.map_cons]
    unfold D.pys
    rw [pys_ints r]
    rfl
theorem lay_ints : ∀ ns : List Int, PyData.canLayAll0 (ns.map .int) = true ∧ PyData.depthAll (ns.map .int) = 0
  | [] => ⟨by simp [PyData.canLayAll0], by simp [PyData.depthAll]⟩
  | n :: r => by
    obtain ⟨h1, h2⟩ := lay_ints r
    rw [List.map_cons]
    exact ⟨by simp [PyData.canLayAll0, PyData.canLay0, h1], by simp [PyData.depthAll, PyData.depth, h2]⟩
theorem shaped_ints (ns : List Int) : SeqAt.shaped (PyData.list (ns.map .int)) = true := by
  obtain ⟨h1, h2⟩ := lay_ints ns
  simp [SeqAt.shaped, PyData.canLay0, PyData.depth, h1, h2]
theorem eq_nil (ns : List Int) : coF .eq (.lst (ns.map .int)) (.lst []) = some (.bl ns.isEmpty) := by
  show (eqF (.lst (ns.map .int)) (.lst [])).map D.bl = _
  unfold eqF
  simp only [D.py, pys_ints, D.pys, Option.map_some]
  cases ns with
  | nil => rfl
  | cons n r =>
    have h1 := shaped_ints (n :: r)
    have h2 := shaped_ints []
    rw [List.map_nil] at h2
    rw [h1, h2]
    rfl
def inB (rays : List (List Int)) (row : List Rat) (p : List Rat) : Bool := rays.zipIdx.all fun x => decide (dot x.1 p ≤ row.getD x.2 0)
theorem enum_map (rays : List (List Int)) : enumL (rays.map D.ray) = rays.zipIdx.map fun x => .tup [.int x.2, D.ray x.1] := by
  unfold enumL
  rw [List.zipIdx_map, List.map_map]
  rfl
theorem at_nat {l : List D} {i : Nat} {d : D} (h : l[i]? = some d) (hl : l.length ≤ 1000000) : atI l (i : Int) = some d := by
  have hi : i < l.length := (List.getElem?_eq_some_iff.mp h).1
  unfold atI ixN
  have h2 := (List.getElem?_eq_some_iff.mp h).2
  simp [hi, h2]
theorem law_within_eq {k n m : Nat} (hk : k = 1 ∨ k = 2) {rays : List (List Int)} {row : List Rat} {p : List Rat} (w : Pn) (hr : ∀ r ∈ rays, RayOk k r) (hq : ∀ q ∈ row, Bd m q) (hl : row.length = rays.length) (hp : PtOk k n p) (hn : n ≤ 1000) (hm : m ≤ 3000) (h1 : rays.length ≤ 1000) :
    law_is_withinF [.tup (rays.map D.ray), .tup (row.map D.rat), D.pt p] w = some (.ok (.bl (inB rays row p)) w) := by
  have e := comp_ofF (σ := [some (.val (.tup (rays.map D.ray))), some (.val (.tup (row.map D.rat))), some (.val (D.pt p)), none, none]) (own := [3, 4]) (t := .tp [3, 4]) (s := srcEnum (xvar 0)) (c := tnot (xtru (xcall law_is_at_mostF (acons (xcall law_worthF (acons (xvar 4) (acons (xvar 2) (anil)))) (acons (xidx (xvar 1) (xvar 3)) (anil)))))) (e := xvar 3) (w := w)
    rays.zipIdx (fun x => .tup [.int x.2, D.ray x.1]) (fun x => !decide (dot x.1 p ≤ row.getD x.2 0)) (fun x => .int x.2) (by
      simp only [fnF, List.length_cons, List.length_nil, Nat.reduceAdd, Nat.reduceSub, if_true, start_eq, List.map_cons, List.map_nil, List.cons_append, List.nil_append, List.append_nil, List.replicate, scons, snil_eq, spass_eq, sasg, sret, sexpr, site, srais, saug, spar2, spar3, xbui, xbin, xcmp, xneg, xidx, xtup, xlst, xcall, xisi, xnot, xand, xor, xife, xtru, xcst, tand, tor, tnot, tyes, acons, anil, xvar, slot_z, slot_s, mslot_z, mslot_s, opt_some, bnd_ok, bu_gcd, Int.natAbs_natCast, setT, List.set_cons_succ, List.set_cons_zero, Option.map_some, small0, small1, small2, small3, idx_tup, idx_lst, at2_0, at2_1, at1_0, bo_add, bo_sub, co_lt, co_le, co_gt, co_ge, co_isN, ne_int, eqc_int, tru_bl, tru_int, tru_non, tru_lst, bu_int, bu_abs, bu_lenT, bu_lenL, bu_tupT, bu_tupL, isi_lt, isi_ll, isi_ii, isi_ib, isi_bi, isi_bb, decide_true, decide_false, Bool.not_true, Bool.not_false, Bool.false_eq_true, if_false, D.isNon, negF, srcEnum, seq_t]
      rw [enum_map]) (by
      rintro ⟨r, i⟩ hx
      have hx' := List.mem_zipIdx hx
      have hi : i < rays.length := by omega
      have hr' : RayOk k r := hr r (by rw [hx'.2.2]; exact List.getElem_mem _)
      have hrow : row[i]? = some (row.getD i 0) := by
        rw [List.getD_eq_getElem?_getD, List.getElem?_eq_getElem (by omega)]; rfl
      have hb : Bd m (row.getD i 0) := hq _ (List.mem_of_getElem? hrow)
      have e1 := law_worth_eq hk w hr' hp (by omega)
      have e2 := law_am_eq w (bd_dot hk hr' hp) hb (by omega)
      have e3 : atI (row.map D.rat) (i : Int) = some (D.rat (row.getD i 0)) := at_nat (by rw [List.getElem?_map, hrow]; rfl) (by simp; omega)
      refine ⟨_, rfl, ?_, ?_⟩
      · simp only [fnF, List.length_cons, List.length_nil, Nat.reduceAdd, Nat.reduceSub, if_true, start_eq, List.map_cons, List.map_nil, List.cons_append, List.nil_append, List.append_nil, List.replicate, scons, snil_eq, spass_eq, sasg, sret, sexpr, site, srais, saug, spar2, spar3, xbui, xbin, xcmp, xneg, xidx, xtup, xlst, xcall, xisi, xnot, xand, xor, xife, xtru, xcst, tand, tor, tnot, tyes, acons, anil, xvar, slot_z, slot_s, mslot_z, mslot_s, opt_some, bnd_ok, bu_gcd, Int.natAbs_natCast, setT, List.set_cons_succ, List.set_cons_zero, Option.map_some, small0, small1, small2, small3, idx_tup, idx_lst, at2_0, at2_1, at1_0, bo_add, bo_sub, co_lt, co_le, co_gt, co_ge, co_isN, ne_int, eqc_int, tru_bl, tru_int, tru_non, tru_lst, bu_int, bu_abs, bu_lenT, bu_lenL, bu_tupT, bu_tupL, isi_lt, isi_ll, isi_ii, isi_ib, isi_bi, isi_bb, decide_true, decide_false, Bool.not_true, Bool.not_false, Bool.false_eq_true, if_false, D.isNon, negF, wipeE, setTs2, e1, e2, e3]
      · intro _
        simp only [fnF, List.length_cons, List.length_nil, Nat.reduceAdd, Nat.reduceSub, if_true, start_eq, List.map_cons, List.map_nil, List.cons_append, List.nil_append, List.append_nil, List.replicate, scons, snil_eq, spass_eq, sasg, sret, sexpr, site, srais, saug, spar2, spar3, xbui, xbin, xcmp, xneg, xidx, xtup, xlst, xcall, xisi, xnot, xand, xor, xife, xtru, xcst, tand, tor, tnot, tyes, acons, anil, xvar, slot_z, slot_s, mslot_z, mslot_s, opt_some, bnd_ok, bu_gcd, Int.natAbs_natCast, setT, List.set_cons_succ, List.set_cons_zero, Option.map_some, small0, small1, small2, small3, idx_tup, idx_lst, at2_0, at2_1, at1_0, bo_add, bo_sub, co_lt, co_le, co_gt, co_ge, co_isN, ne_int, eqc_int, tru_bl, tru_int, tru_non, tru_lst, bu_int, bu_abs, bu_lenT, bu_lenL, bu_tupT, bu_tupL, isi_lt, isi_ll, isi_ii, isi_ib, isi_bi, isi_bb, decide_true, decide_false, Bool.not_true, Bool.not_false, Bool.false_eq_true, if_false, D.isNon, negF, wipeE, setTs2]) (by simp; omega)
  have e4 : (rays.zipIdx.filter fun x => !decide (dot x.1 p ≤ row.getD x.2 0)).map (fun x => D.int (x.2 : Int)) = ((rays.zipIdx.filter fun x => !decide (dot x.1 p ≤ row.getD x.2 0)).map (fun x => (x.2 : Int))).map D.int := by rw [List.map_map]; rfl
  rw [e4] at e
  have e5 : ((rays.zipIdx.filter fun x => !decide (dot x.1 p ≤ row.getD x.2 0)).map (fun x => (x.2 : Int))).isEmpty = inB rays row p := by
    unfold inB
    rw [Bool.eq_iff_iff, List.isEmpty_iff, List.map_eq_nil_iff, List.filter_eq_nil_iff, List.all_eq_true]
    simp
  simp only [fnF, List.length_cons, List.length_nil, Nat.reduceAdd, Nat.reduceSub, if_true, start_eq, List.map_cons, List.map_nil, List.cons_append, List.nil_append, List.append_nil, List.replicate, scons, snil_eq, spass_eq, sasg, sret, sexpr, site, srais, saug, spar2, spar3, xbui, xbin, xcmp, xneg, xidx, xtup, xlst, xcall, xisi, xnot, xand, xor, xife, xtru, xcst, tand, tor, tnot, tyes, acons, anil, xvar, slot_z, slot_s, mslot_z, mslot_s, opt_some, bnd_ok, bu_gcd, Int.natAbs_natCast, setT, List.set_cons_succ, List.set_cons_zero, Option.map_some, small0, small1, small2, small3, idx_tup, idx_lst, at2_0, at2_1, at1_0, bo_add, bo_sub, co_lt, co_le, co_gt, co_ge, co_isN, ne_int, eqc_int, tru_bl, tru_int, tru_non, tru_lst, bu_int, bu_abs, bu_lenT, bu_lenL, bu_tupT, bu_tupL, isi_lt, isi_ll, isi_ii, isi_ib, isi_bi, isi_bb, decide_true, decide_false, Bool.not_true, Bool.not_false, Bool.false_eq_true, if_false, D.isNon, negF, law_is_withinF, law_is_withinB, e, eq_nil, e5]
end Rh
set_option Elab.async false
set_option linter.all false
set_option maxRecDepth 100000
set_option maxHeartbeats 4000000
/-! Rh: turns and corners, by the program and by the law. -/
namespace Rh
open PySem L2
theorem ray2 (a b : Int) : D.ray [a, b] = .tup [.int a, .int b] := rfl
theorem turn_eq {a b c d : Int} (w : Pn) (ha : Sz 4 a) (hb : Sz 4 b) (hc : Sz 4 c) (hd : Sz 4 d) : turn_ofF [D.ray [a, b], D.ray [c, d]] w = some (.ok (.int (a * d - b * c)) w) := by
  have h1 := mul_ok ha hd (by omega)
  have h2 := mul_ok hb hc (by omega)
  simp only [ray2]
  simp only [fnF, List.length_cons, List.length_nil, Nat.reduceAdd, Nat.reduceSub, if_true, start_eq, List.map_cons, List.map_nil, List.cons_append, List.nil_append, List.append_nil, List.replicate, scons, snil_eq, spass_eq, sasg, sret, sexpr, site, srais, saug, spar2, spar3, xbui, xbin, xcmp, xneg, xidx, xtup, xlst, xcall, xisi, xnot, xand, xor, xife, xtru, xcst, tand, tor, tnot, tyes, acons, anil, xvar, slot_z, slot_s, mslot_z, mslot_s, opt_some, bnd_ok, bu_gcd, Int.natAbs_natCast, setT, List.set_cons_succ, List.set_cons_zero, Option.map_some, small0, small1, small2, small3, idx_tup, idx_lst, at2_0, at2_1, at1_0, bo_add, bo_sub, co_lt, co_le, co_gt, co_ge, co_isN, ne_int, eqc_int, tru_bl, tru_int, tru_non, tru_lst, bu_int, bu_abs, bu_lenT, bu_lenL, bu_tupT, bu_tupL, isi_lt, isi_ll, isi_ii, isi_ib, isi_bi, isi_bb, decide_true, decide_false, Bool.not_true, Bool.not_false, Bool.false_eq_true, if_false, D.isNon, negF, turn_ofF, turn_ofB, bo_mul h1, bo_mul h2]
theorem law_turn_eq {a b c d : Int} (w : Pn) (ha : Sz 4 a) (hb : Sz 4 b) (hc : Sz 4 c) (hd : Sz 4 d) : law_turnF [D.ray [a, b], D.ray [c, d]] w = some (.ok (.int (a * d - b * c)) w) := by
  have h1 := mul_ok ha hd (by omega)
  have h2 := mul_ok hb hc (by omega)
  simp only [ray2]
  simp only [fnF, List.length_cons, List.length_nil, Nat.reduceAdd, Nat.reduceSub, if_true, start_eq, List.map_cons, List.map_nil, List.cons_append, List.nil_append, List.append_nil, List.replicate, scons, snil_eq, spass_eq, sasg, sret, sexpr, site, srais, saug, spar2, spar3, xbui, xbin, xcmp, xneg, xidx, xtup, xlst, xcall, xisi, xnot, xand, xor, xife, xtru, xcst, tand, tor, tnot, tyes, acons, anil, xvar, slot_z, slot_s, mslot_z, mslot_s, opt_some, bnd_ok, bu_gcd, Int.natAbs_natCast, setT, List.set_cons_succ, List.set_cons_zero, Option.map_some, small0, small1, small2, small3, idx_tup, idx_lst, at2_0, at2_1, at1_0, bo_add, bo_sub, co_lt, co_le, co_gt, co_ge, co_isN, ne_int, eqc_int, tru_bl, tru_int, tru_non, tru_lst, bu_int, bu_abs, bu_lenT, bu_lenL, bu_tupT, bu_tupL, isi_lt, isi_ll, isi_ii, isi_ib, isi_bi, isi_bb, decide_true, decide_false, Bool.not_true, Bool.not_false, Bool.false_eq_true, if_false, D.isNon, negF, law_turnF, law_turnB, bo_mul h1, bo_mul h2]
theorem sz_turn {a b c d : Int} (ha : Sz 4 a) (hb : Sz 4 b) (hc : Sz 4 c) (hd : Sz 4 d) : Sz 9 (a * d - b * c) := (ha.mul hd).sub (hb.mul hc)
theorem Sz.neg {n : Nat} {i : Int} (h : Sz n i) : Sz n (-i) := by unfold Sz at *; rwa [Int.natAbs_neg]
theorem over_eq (x : Rat) (W : Nat) : ((x.num : Int) : Rat) / ((x.den * W : Nat) : Rat) = x / (W : Rat) := by
  have e := rat_num_den x
  have h1 := den0 x
  by_cases hW : (W : Rat) = 0
  · push_cast
    rw [hW, Rat.mul_zero, Rat.div_def, Rat.div_def, Rat.inv_zero, Rat.mul_zero, Rat.mul_zero]
  · have e2 : ((x.num : Int) : Rat) = x * ((x.den : Nat) : Rat) := by rw [← Rat.div_mul_cancel h1 (a := ((x.num : Int) : Rat)), e]
    rw [e2]
    push_cast
    grind
theorem at_tup {l : List D} {i : Nat} {d : D} (h : l[i]? = some d) (hl : l.length ≤ 1000000) : idxF (.tup l) (.int (i : Int)) = some d := at_nat h hl
theorem corner_at_eq {n : Nat} {rays : List (List Int)} {row : List Rat} {i : Nat} {a b c d : Int} {p q : Rat} {W : Nat} (w : Pn) (hi : i < rays.length) (hl : rays.length ≤ 1000) (hl2 : row.length = rays.length)
    (hr0 : rays[i]? = some [a, b]) (hr1 : rays[(i + 1) % rays.length]? = some [c, d]) (hq0 : row[i]? = some p) (hq1 : row[(i + 1) % rays.length]? = some q) (hw : a * d - b * c = (W : Int)) (hW : W ≠ 0)
    (ha : Sz 4 a) (hb : Sz 4 b) (hc : Sz 4 c) (hd : Sz 4 d) (hp : Bd n p) (hq : Bd n q) (hn : n ≤ 1000) :
    corner_atF [.tup (rays.map D.ray), .tup (row.map D.rat), .int (i : Int)] w = some (.ok (.tup [D.rat ((p * (d : Rat) + q * ((-b : Int) : Rat)) / (W : Rat)), D.rat ((p * ((-c : Int) : Rat) + q * (a : Rat)) / (W : Rat))]) w) := by
  have g0 : idxF (.tup (rays.map D.ray)) (.int (i : Int)) = some (D.ray [a, b]) := at_tup (by rw [List.getElem?_map, hr0]; rfl) (by simp; omega)
  have g1 : idxF (.tup (rays.map D.ray)) (.int (((i + 1) % rays.length : Nat) : Int)) = some (D.ray [c, d]) := at_tup (by rw [List.getElem?_map, hr1]; rfl) (by simp; omega)
  have g2 : idxF (.tup (row.map D.rat)) (.int (i : Int)) = some (D.rat p) := at_tup (by rw [List.getElem?_map, hq0]; rfl) (by simp; omega)
  have g3 : idxF (.tup (row.map D.rat)) (.int (((i + 1) % rays.length : Nat) : Int)) = some (D.rat q) := at_tup (by rw [List.getElem?_map, hq1]; rfl) (by simp; omega)
  have gm : ((i : Int) + 1) % ((rays.map D.ray).length : Int) = (((i + 1) % rays.length : Nat) : Int) := by simp
  have hpos : (0 : Int) < ((rays.map D.ray).length : Int) := by simp; omega
  have t := turn_eq w ha hb hc hd
  rw [hw] at t
  have sW : Sz 9 (W : Int) := by rw [← hw]; exact sz_turn ha hb hc hd
  have x1 := times_eq w hp hd (by omega)
  have x2 := times_eq w hq hb.neg (by omega)
  have x3 := plus_eq w (bd_mul hp hd) (bd_mul hq hb.neg) (by omega)
  have y1 := times_eq w hp hc.neg (by omega)
  have y2 := times_eq w hq ha (by omega)
  have y3 := plus_eq w (bd_mul hp hc.neg) (bd_mul hq ha) (by omega)
  have bx := bd_add (bd_mul hp hd) (bd_mul hq hb.neg)
  have byy := bd_add (bd_mul hp hc.neg) (bd_mul hq ha)
  generalize hX : p * (d : Rat) + q * ((-b : Int) : Rat) = X at *
  generalize hY : p * ((-c : Int) : Rat) + q * (a : Rat) = Y at *
  have mx := mul_ok bx.den sW (by omega)
  have my := mul_ok byy.den sW (by omega)
  have lx := lowest_eq (n := 3000) (a := X.num) w (Nat.mul_ne_zero X.den_nz hW) (by
    have := bx.den.mul sW
    rw [← Int.natCast_mul] at this
    exact this.mono (by omega)) (by omega)
  have ly := lowest_eq (n := 3000) (a := Y.num) w (Nat.mul_ne_zero Y.den_nz hW) (by
    have := byy.den.mul sW
    rw [← Int.natCast_mul] at this
    exact this.mono (by omega)) (by omega)
  rw [over_eq, Int.natCast_mul] at lx ly
  have v1 : idxF (D.rat X) (.int 0) = some (.int X.num) := rfl
  have v2 : idxF (D.rat X) (.int 1) = some (.int (X.den : Int)) := rfl
  have v3 : idxF (D.rat Y) (.int 0) = some (.int Y.num) := rfl
  have v4 : idxF (D.rat Y) (.int 1) = some (.int (Y.den : Int)) := rfl
  have u0 : idxF (D.ray [a, b]) (.int 0) = some (.int a) := rfl
  have u1 : idxF (D.ray [a, b]) (.int 1) = some (.int b) := rfl
  have u2 : idxF (D.ray [c, d]) (.int 0) = some (.int c) := rfl
  have u3 : idxF (D.ray [c, d]) (.int 1) = some (.int d) := rfl
  simp only [fnF, corner_atF, corner_atB, start_eq, List.length_cons, List.length_nil, Nat.reduceAdd, Nat.reduceSub, if_true, List.map_cons, List.map_nil, List.cons_append, List.nil_append, List.replicate, scons, spar2, spar3, sasg, setT, sret, xidx, xbin, xbui, xcst, xneg, xcall, xtup, acons, anil, xvar, slot_z, slot_s, opt_some, bnd_ok, g0, g1, g2, g3, bu_lenT, bo_add, bo_mod hpos, gm, List.set_cons_succ, List.set_cons_zero, t, u0, u1, u2, u3, v1, v2, v3, v4, negF, x1, x2, x3, y1, y2, y3, Option.map_some, bo_mul mx, bo_mul my, lx, ly, small2, snil_eq]
end Rh
set_option Elab.async false
set_option linter.all false
set_option maxRecDepth 100000
set_option maxHeartbeats 4000000
/-! Rh: corners by the law; equal data. -/
namespace Rh
open PySem L2
theorem law_corner_eq {n : Nat} {rays : List (List Int)} {row : List Rat} {i : Nat} {a b c d : Int} {p q : Rat} {W : Nat} (w : Pn) (hi : i < rays.length) (hl : rays.length ≤ 1000) (hl2 : row.length = rays.length)
    (hr0 : rays[i]? = some [a, b]) (hr1 : rays[(i + 1) % rays.length]? = some [c, d]) (hq0 : row[i]? = some p) (hq1 : row[(i + 1) % rays.length]? = some q) (hw : a * d - b * c = (W : Int)) (hW : W ≠ 0)
    (ha : Sz 4 a) (hb : Sz 4 b) (hc : Sz 4 c) (hd : Sz 4 d) (hp : Bd n p) (hq : Bd n q) (hn : n ≤ 1000) :
    law_cornerF [.tup (rays.map D.ray), .tup (row.map D.rat), .int (i : Int)] w = some (.ok (.tup [D.rat ((p * (d : Rat) + q * ((-b : Int) : Rat)) / (W : Rat)), D.rat ((p * ((-c : Int) : Rat) + q * (a : Rat)) / (W : Rat))]) w) := by
  have g0 : idxF (.tup (rays.map D.ray)) (.int (i : Int)) = some (D.ray [a, b]) := at_tup (by rw [List.getElem?_map, hr0]; rfl) (by simp; omega)
  have g1 : idxF (.tup (rays.map D.ray)) (.int (((i + 1) % rays.length : Nat) : Int)) = some (D.ray [c, d]) := at_tup (by rw [List.getElem?_map, hr1]; rfl) (by simp; omega)
  have g2 : idxF (.tup (row.map D.rat)) (.int (i : Int)) = some (D.rat p) := at_tup (by rw [List.getElem?_map, hq0]; rfl) (by simp; omega)
  have g3 : idxF (.tup (row.map D.rat)) (.int (((i + 1) % rays.length : Nat) : Int)) = some (D.rat q) := at_tup (by rw [List.getElem?_map, hq1]; rfl) (by simp; omega)
  have gm : ((i : Int) + 1) % ((rays.map D.ray).length : Int) = (((i + 1) % rays.length : Nat) : Int) := by simp
  have hpos : (0 : Int) < ((rays.map D.ray).length : Int) := by simp; omega
  have t := law_turn_eq w ha hb hc hd
  rw [hw] at t
  have sW : Sz 9 (W : Int) := by rw [← hw]; exact sz_turn ha hb hc hd
  have x1 := law_sum_eq w bd_zero hp hd (by omega)
  have x2 := law_sum_eq w (bd_mul hp hd) hq hb.neg (by omega)
  have y1 := law_sum_eq w bd_zero hq ha (by omega)
  have y2 := law_sum_eq w (bd_mul hq ha) hp hc.neg (by omega)
  have bx := bd_add (bd_mul hp hd) (bd_mul hq hb.neg)
  have byy := bd_add (bd_mul hp hc.neg) (bd_mul hq ha)
  rw [Rat.zero_add, rat_zero] at x1 y1
  rw [Rat.add_comm] at y2
  generalize hX : p * (d : Rat) + q * ((-b : Int) : Rat) = X at *
  generalize hY : p * ((-c : Int) : Rat) + q * (a : Rat) = Y at *
  have mx := mul_ok bx.den sW (by omega)
  have my := mul_ok byy.den sW (by omega)
  have lx := law_frac_eq (n := 3000) (a := X.num) w (Nat.mul_ne_zero X.den_nz hW) (by
    have := bx.den.mul sW
    rw [← Int.natCast_mul] at this
    exact this.mono (by omega)) (by omega)
  have ly := law_frac_eq (n := 3000) (a := Y.num) w (Nat.mul_ne_zero Y.den_nz hW) (by
    have := byy.den.mul sW
    rw [← Int.natCast_mul] at this
    exact this.mono (by omega)) (by omega)
  rw [over_eq, Int.natCast_mul] at lx ly
  have v1 : idxF (D.rat X) (.int 0) = some (.int X.num) := rfl
  have v2 : idxF (D.rat X) (.int 1) = some (.int (X.den : Int)) := rfl
  have v3 : idxF (D.rat Y) (.int 0) = some (.int Y.num) := rfl
  have v4 : idxF (D.rat Y) (.int 1) = some (.int (Y.den : Int)) := rfl
  have u0 : idxF (D.ray [a, b]) (.int 0) = some (.int a) := rfl
  have u1 : idxF (D.ray [a, b]) (.int 1) = some (.int b) := rfl
  have u2 : idxF (D.ray [c, d]) (.int 0) = some (.int c) := rfl
  have u3 : idxF (D.ray [c, d]) (.int 1) = some (.int d) := rfl
  simp only [fnF, law_cornerF, law_cornerB, start_eq, List.length_cons, List.length_nil, Nat.reduceAdd, Nat.reduceSub, if_true, List.map_cons, List.map_nil, List.cons_append, List.nil_append, List.replicate, scons, spar2, spar3, sasg, setT, sret, xidx, xbin, xbui, xcst, xneg, xcall, xtup, acons, anil, xvar, slot_z, slot_s, opt_some, bnd_ok, g0, g1, g2, g3, bu_lenT, bu_int, bo_add, bo_mod hpos, gm, List.set_cons_succ, List.set_cons_zero, t, u0, u1, u2, u3, v1, v2, v3, v4, negF, x1, x2, y1, y2, Option.map_some, bo_mul mx, bo_mul my, lx, ly, small2, snil_eq]
/-! ### plain data -/
/-- what == and repr look at -/
structure Pl (n : Nat) (d : D) : Prop where
  ex : ∃ x, D.py d = some x ∧ x.canLay0 = true ∧ x.depth ≤ n
structure Pls (n : Nat) (l : List D) : Prop where
  ex : ∃ xs, D.pys l = some xs ∧ PyData.canLayAll0 xs = true ∧ PyData.depthAll xs ≤ n
theorem pl_int (i : Int) : Pl 0 (.int i) := ⟨.int i, rfl, by simp [PyData.canLay0], by simp [PyData.depth]⟩
theorem pl_bl (b : Bool) : Pl 0 (.bl b) := ⟨.bool b, rfl, by simp [PyData.canLay0], by simp [PyData.depth]⟩
theorem Pl.mono {m n : Nat} {d : D} (h : Pl m d) (k : m ≤ n) : Pl n d := by
  obtain ⟨x, h1, h2, h3⟩ := h.ex
  exact ⟨x, h1, h2, by omega⟩
theorem pls_of {n : Nat} : ∀ {l : List D}, (∀ d ∈ l, Pl n d) → Pls n l
  | [], _ => ⟨[], rfl, by simp [PyData.canLayAll0], by simp [PyData.depthAll]⟩
  | d :: r, h => by
    obtain ⟨x, h1, h2, h3⟩ := (h d List.mem_cons_self).ex
    obtain ⟨xs, g1, g2, g3⟩ := (pls_of (l := r) fun e he => h e (List.mem_cons_of_mem _ he)).ex
    refine ⟨x :: xs, ?_, by simp [PyData.canLayAll0, h2, g2], by simp [PyData.depthAll]; omega⟩
    unfold D.pys
    rw [h1, g1]
theorem pl_tup {n : Nat} {l : List D} (h : ∀ d ∈ l, Pl n d) : Pl (n + 1) (.tup l) := by
  obtain ⟨xs, g1, g2, g3⟩ := (pls_of h).ex
  refine ⟨.tuple xs, by simp [D.py, g1], by simp [PyData.canLay0, g2], by simp [PyData.depth]; omega⟩
theorem pl_lst {n : Nat} {l : List D} (h : ∀ d ∈ l, Pl n d) : Pl (n + 1) (.lst l) := by
  obtain ⟨xs, g1, g2, g3⟩ := (pls_of h).ex
  refine ⟨.list xs, by simp [D.py, g1], by simp [PyData.canLay0, g2], by simp [PyData.depth]; omega⟩
theorem pl_rat (q : Rat) : Pl 1 (D.rat q) := pl_tup fun d hd => by
  rcases List.mem_cons.mp hd with rfl | hd
  · exact pl_int _
  · rw [List.mem_singleton.mp hd]; exact pl_int _
theorem pl_ray (r : List Int) : Pl 1 (D.ray r) := pl_tup fun d hd => by
  obtain ⟨a, _, rfl⟩ := List.mem_map.mp hd
  exact pl_int a
theorem pl_pt (p : List Rat) : Pl 2 (D.pt p) := pl_tup fun d hd => by
  obtain ⟨a, _, rfl⟩ := List.mem_map.mp hd
  exact pl_rat a
/-- equal things are equal -/
theorem eq_self {n : Nat} {d : D} (h : Pl n d) (hn : n ≤ 64) : eqF d d = some true := by
  obtain ⟨x, h1, h2, h3⟩ := h.ex
  have hs : SeqAt.shaped x = true := by
    unfold SeqAt.shaped
    rw [h2, Bool.true_and]
    exact decide_eq_true (by omega)
  unfold eqF
  rw [h1]
  simp only [hs, Bool.and_self, if_true]
  rw [SeqAt.eqv_refl x h2]
theorem eqc_self {n : Nat} {d : D} (h : Pl n d) (hn : n ≤ 64) : coF .eq d d = some (.bl true) := by
  show (eqF d d).map D.bl = _
  rw [eq_self h hn]; rfl
theorem nec_self {n : Nat} {d : D} (h : Pl n d) (hn : n ≤ 64) : coF .ne d d = some (.bl false) := by
  show (eqF d d).map (fun k => D.bl (!k)) = _
  rw [eq_self h hn]; rfl
end Rh
set_option Elab.async false
set_option linter.all false
set_option maxRecDepth 100000
set_option maxHeartbeats 4000000
/-! Rh: the checks of numbers, fractions, rows. -/
namespace Rh
open PySem L2
theorem is_integer_int (i : Int) (w : Pn) : is_integerF [.int i] w = some (.ok (.bl true) w) := by
  simp only [fnF, List.length_cons, List.length_nil, Nat.reduceAdd, Nat.reduceSub, if_true, start_eq, List.map_cons, List.map_nil, List.cons_append, List.nil_append, List.append_nil, List.replicate, scons, snil_eq, spass_eq, sasg, sret, sexpr, site, srais, saug, spar2, spar3, xbui, xbin, xcmp, xneg, xidx, xtup, xlst, xcall, xisi, xnot, xand, xor, xife, xtru, xcst, tand, tor, tnot, tyes, acons, anil, xvar, slot_z, slot_s, mslot_z, mslot_s, opt_some, bnd_ok, bu_gcd, Int.natAbs_natCast, setT, List.set_cons_succ, List.set_cons_zero, Option.map_some, small0, small1, small2, small3, idx_tup, idx_lst, at2_0, at2_1, at1_0, bo_add, bo_sub, co_lt, co_le, co_gt, co_ge, co_isN, ne_int, eqc_int, tru_bl, tru_int, tru_non, tru_lst, bu_int, bu_abs, bu_lenT, bu_lenL, bu_tupT, bu_tupL, isi_lt, isi_ll, isi_ii, isi_ib, isi_bi, isi_bb, decide_true, decide_false, Bool.not_true, Bool.not_false, Bool.false_eq_true, if_false, D.isNon, negF, is_integerF, is_integerB]
theorem is_within_nn (i : Int) (w : Pn) : is_withinF [.int i, .non, .non] w = some (.ok (.bl true) w) := by
  simp only [fnF, List.length_cons, List.length_nil, Nat.reduceAdd, Nat.reduceSub, if_true, start_eq, List.map_cons, List.map_nil, List.cons_append, List.nil_append, List.append_nil, List.replicate, scons, snil_eq, spass_eq, sasg, sret, sexpr, site, srais, saug, spar2, spar3, xbui, xbin, xcmp, xneg, xidx, xtup, xlst, xcall, xisi, xnot, xand, xor, xife, xtru, xcst, tand, tor, tnot, tyes, acons, anil, xvar, slot_z, slot_s, mslot_z, mslot_s, opt_some, bnd_ok, bu_gcd, Int.natAbs_natCast, setT, List.set_cons_succ, List.set_cons_zero, Option.map_some, small0, small1, small2, small3, idx_tup, idx_lst, at2_0, at2_1, at1_0, bo_add, bo_sub, co_lt, co_le, co_gt, co_ge, co_isN, ne_int, eqc_int, tru_bl, tru_int, tru_non, tru_lst, bu_int, bu_abs, bu_lenT, bu_lenL, bu_tupT, bu_tupL, isi_lt, isi_ll, isi_ii, isi_ib, isi_bi, isi_bb, decide_true, decide_false, Bool.not_true, Bool.not_false, Bool.false_eq_true, if_false, D.isNon, negF, is_withinF, is_withinB, is_integer_int]
theorem isN_int (i : Int) : coF .isN (.int i) .non = some (.bl false) := rfl
theorem isN_non : coF .isN .non .non = some (.bl true) := rfl
theorem is_within_in (i l : Int) (w : Pn) : is_withinF [.int i, .int l, .non] w = some (.ok (.bl (decide (l ≤ i))) w) := by
  by_cases c : l ≤ i
  · simp only [fnF, List.length_cons, List.length_nil, Nat.reduceAdd, Nat.reduceSub, if_true, start_eq, List.map_cons, List.map_nil, List.cons_append, List.nil_append, List.append_nil, List.replicate, scons, snil_eq, spass_eq, sasg, sret, sexpr, site, srais, saug, spar2, spar3, xbui, xbin, xcmp, xneg, xidx, xtup, xlst, xcall, xisi, xnot, xand, xor, xife, xtru, xcst, tand, tor, tnot, tyes, acons, anil, xvar, slot_z, slot_s, mslot_z, mslot_s, opt_some, bnd_ok, bu_gcd, Int.natAbs_natCast, setT, List.set_cons_succ, List.set_cons_zero, Option.map_some, small0, small1, small2, small3, idx_tup, idx_lst, at2_0, at2_1, at1_0, bo_add, bo_sub, co_lt, co_le, co_gt, co_ge, co_isN, ne_int, eqc_int, tru_bl, tru_int, tru_non, tru_lst, bu_int, bu_abs, bu_lenT, bu_lenL, bu_tupT, bu_tupL, isi_lt, isi_ll, isi_ii, isi_ib, isi_bi, isi_bb, decide_true, decide_false, Bool.not_true, Bool.not_false, Bool.false_eq_true, if_false, D.isNon, negF, is_withinF, is_withinB, is_integer_int, isN_int, isN_non, c]
  · simp only [fnF, List.length_cons, List.length_nil, Nat.reduceAdd, Nat.reduceSub, if_true, start_eq, List.map_cons, List.map_nil, List.cons_append, List.nil_append, List.append_nil, List.replicate, scons, snil_eq, spass_eq, sasg, sret, sexpr, site, srais, saug, spar2, spar3, xbui, xbin, xcmp, xneg, xidx, xtup, xlst, xcall, xisi, xnot, xand, xor, xife, xtru, xcst, tand, tor, tnot, tyes, acons, anil, xvar, slot_z, slot_s, mslot_z, mslot_s, opt_some, bnd_ok, bu_gcd, Int.natAbs_natCast, setT, List.set_cons_succ, List.set_cons_zero, Option.map_some, small0, small1, small2, small3, idx_tup, idx_lst, at2_0, at2_1, at1_0, bo_add, bo_sub, co_lt, co_le, co_gt, co_ge, co_isN, ne_int, eqc_int, tru_bl, tru_int, tru_non, tru_lst, bu_int, bu_abs, bu_lenT, bu_lenL, bu_tupT, bu_tupL, isi_lt, isi_ll, isi_ii, isi_ib, isi_bi, isi_bb, decide_true, decide_false, Bool.not_true, Bool.not_false, Bool.false_eq_true, if_false, D.isNon, negF, is_withinF, is_withinB, is_integer_int, isN_int, isN_non, c]
theorem is_within_ii (i l m : Int) (w : Pn) : is_withinF [.int i, .int l, .int m] w = some (.ok (.bl (decide (l ≤ i) && decide (i ≤ m))) w) := by
  by_cases c : l ≤ i
  · by_cases c2 : i ≤ m
    · simp only [fnF, List.length_cons, List.length_nil, Nat.reduceAdd, Nat.reduceSub, if_true, start_eq, List.map_cons, List.map_nil, List.cons_append, List.nil_append, List.append_nil, List.replicate, scons, snil_eq, spass_eq, sasg, sret, sexpr, site, srais, saug, spar2, spar3, xbui, xbin, xcmp, xneg, xidx, xtup, xlst, xcall, xisi, xnot, xand, xor, xife, xtru, xcst, tand, tor, tnot, tyes, acons, anil, xvar, slot_z, slot_s, mslot_z, mslot_s, opt_some, bnd_ok, bu_gcd, Int.natAbs_natCast, setT, List.set_cons_succ, List.set_cons_zero, Option.map_some, small0, small1, small2, small3, idx_tup, idx_lst, at2_0, at2_1, at1_0, bo_add, bo_sub, co_lt, co_le, co_gt, co_ge, co_isN, ne_int, eqc_int, tru_bl, tru_int, tru_non, tru_lst, bu_int, bu_abs, bu_lenT, bu_lenL, bu_tupT, bu_tupL, isi_lt, isi_ll, isi_ii, isi_ib, isi_bi, isi_bb, decide_true, decide_false, Bool.not_true, Bool.not_false, Bool.false_eq_true, if_false, D.isNon, negF, is_withinF, is_withinB, is_integer_int, isN_int, c, c2, Bool.and_true]
    · simp only [fnF, List.length_cons, List.length_nil, Nat.reduceAdd, Nat.reduceSub, if_true, start_eq, List.map_cons, List.map_nil, List.cons_append, List.nil_append, List.append_nil, List.replicate, scons, snil_eq, spass_eq, sasg, sret, sexpr, site, srais, saug, spar2, spar3, xbui, xbin, xcmp, xneg, xidx, xtup, xlst, xcall, xisi, xnot, xand, xor, xife, xtru, xcst, tand, tor, tnot, tyes, acons, anil, xvar, slot_z, slot_s, mslot_z, mslot_s, opt_some, bnd_ok, bu_gcd, Int.natAbs_natCast, setT, List.set_cons_succ, List.set_cons_zero, Option.map_some, small0, small1, small2, small3, idx_tup, idx_lst, at2_0, at2_1, at1_0, bo_add, bo_sub, co_lt, co_le, co_gt, co_ge, co_isN, ne_int, eqc_int, tru_bl, tru_int, tru_non, tru_lst, bu_int, bu_abs, bu_lenT, bu_lenL, bu_tupT, bu_tupL, isi_lt, isi_ll, isi_ii, isi_ib, isi_bi, isi_bb, decide_true, decide_false, Bool.not_true, Bool.not_false, Bool.false_eq_true, if_false, D.isNon, negF, is_withinF, is_withinB, is_integer_int, isN_int, c, c2, Bool.and_false]
  · simp only [fnF, List.length_cons, List.length_nil, Nat.reduceAdd, Nat.reduceSub, if_true, start_eq, List.map_cons, List.map_nil, List.cons_append, List.nil_append, List.append_nil, List.replicate, scons, snil_eq, spass_eq, sasg, sret, sexpr, site, srais, saug, spar2, spar3, xbui, xbin, xcmp, xneg, xidx, xtup, xlst, xcall, xisi, xnot, xand, xor, xife, xtru, xcst, tand, tor, tnot, tyes, acons, anil, xvar, slot_z, slot_s, mslot_z, mslot_s, opt_some, bnd_ok, bu_gcd, Int.natAbs_natCast, setT, List.set_cons_succ, List.set_cons_zero, Option.map_some, small0, small1, small2, small3, idx_tup, idx_lst, at2_0, at2_1, at1_0, bo_add, bo_sub, co_lt, co_le, co_gt, co_ge, co_isN, ne_int, eqc_int, tru_bl, tru_int, tru_non, tru_lst, bu_int, bu_abs, bu_lenT, bu_lenL, bu_tupT, bu_tupL, isi_lt, isi_ll, isi_ii, isi_ib, isi_bi, isi_bb, decide_true, decide_false, Bool.not_true, Bool.not_false, Bool.false_eq_true, if_false, D.isNon, negF, is_withinF, is_withinB, is_integer_int, isN_int, c, Bool.false_and]
theorem is_listed_t (l : List D) (w : Pn) : is_listedF [.tup l] w = some (.ok (.bl true) w) := by
  simp only [fnF, List.length_cons, List.length_nil, Nat.reduceAdd, Nat.reduceSub, if_true, start_eq, List.map_cons, List.map_nil, List.cons_append, List.nil_append, List.append_nil, List.replicate, scons, snil_eq, spass_eq, sasg, sret, sexpr, site, srais, saug, spar2, spar3, xbui, xbin, xcmp, xneg, xidx, xtup, xlst, xcall, xisi, xnot, xand, xor, xife, xtru, xcst, tand, tor, tnot, tyes, acons, anil, xvar, slot_z, slot_s, mslot_z, mslot_s, opt_some, bnd_ok, bu_gcd, Int.natAbs_natCast, setT, List.set_cons_succ, List.set_cons_zero, Option.map_some, small0, small1, small2, small3, idx_tup, idx_lst, at2_0, at2_1, at1_0, bo_add, bo_sub, co_lt, co_le, co_gt, co_ge, co_isN, ne_int, eqc_int, tru_bl, tru_int, tru_non, tru_lst, bu_int, bu_abs, bu_lenT, bu_lenL, bu_tupT, bu_tupL, isi_lt, isi_ll, isi_ii, isi_ib, isi_bi, isi_bb, decide_true, decide_false, Bool.not_true, Bool.not_false, Bool.false_eq_true, if_false, D.isNon, negF, is_listedF, is_listedB]
theorem is_listed_l (l : List D) (w : Pn) : is_listedF [.lst l] w = some (.ok (.bl true) w) := by
  simp only [fnF, List.length_cons, List.length_nil, Nat.reduceAdd, Nat.reduceSub, if_true, start_eq, List.map_cons, List.map_nil, List.cons_append, List.nil_append, List.append_nil, List.replicate, scons, snil_eq, spass_eq, sasg, sret, sexpr, site, srais, saug, spar2, spar3, xbui, xbin, xcmp, xneg, xidx, xtup, xlst, xcall, xisi, xnot, xand, xor, xife, xtru, xcst, tand, tor, tnot, tyes, acons, anil, xvar, slot_z, slot_s, mslot_z, mslot_s, opt_some, bnd_ok, bu_gcd, Int.natAbs_natCast, setT, List.set_cons_succ, List.set_cons_zero, Option.map_some, small0, small1, small2, small3, idx_tup, idx_lst, at2_0, at2_1, at1_0, bo_add, bo_sub, co_lt, co_le, co_gt, co_ge, co_isN, ne_int, eqc_int, tru_bl, tru_int, tru_non, tru_lst, bu_int, bu_abs, bu_lenT, bu_lenL, bu_tupT, bu_tupL, isi_lt, isi_ll, isi_ii, isi_ib, isi_bi, isi_bb, decide_true, decide_false, Bool.not_true, Bool.not_false, Bool.false_eq_true, if_false, D.isNon, negF, is_listedF, is_listedB]
theorem need_value_t (d : D) (w : Pn) : need_valueF [.bl true, d] w = some (.ok .non w) := by
  simp only [fnF, List.length_cons, List.length_nil, Nat.reduceAdd, Nat.reduceSub, if_true, start_eq, List.map_cons, List.map_nil, List.cons_append, List.nil_append, List.append_nil, List.replicate, scons, snil_eq, spass_eq, sasg, sret, sexpr, site, srais, saug, spar2, spar3, xbui, xbin, xcmp, xneg, xidx, xtup, xlst, xcall, xisi, xnot, xand, xor, xife, xtru, xcst, tand, tor, tnot, tyes, acons, anil, xvar, slot_z, slot_s, mslot_z, mslot_s, opt_some, bnd_ok, bu_gcd, Int.natAbs_natCast, setT, List.set_cons_succ, List.set_cons_zero, Option.map_some, small0, small1, small2, small3, idx_tup, idx_lst, at2_0, at2_1, at1_0, bo_add, bo_sub, co_lt, co_le, co_gt, co_ge, co_isN, ne_int, eqc_int, tru_bl, tru_int, tru_non, tru_lst, bu_int, bu_abs, bu_lenT, bu_lenL, bu_tupT, bu_tupL, isi_lt, isi_ll, isi_ii, isi_ib, isi_bi, isi_bb, decide_true, decide_false, Bool.not_true, Bool.not_false, Bool.false_eq_true, if_false, D.isNon, negF, need_valueF, need_valueB]
theorem need_value_f (d : D) (w : Pn) : need_valueF [.bl false, d] w = some (.ex 1 d w) := by
  simp only [fnF, List.length_cons, List.length_nil, Nat.reduceAdd, Nat.reduceSub, if_true, start_eq, List.map_cons, List.map_nil, List.cons_append, List.nil_append, List.append_nil, List.replicate, scons, snil_eq, spass_eq, sasg, sret, sexpr, site, srais, saug, spar2, spar3, xbui, xbin, xcmp, xneg, xidx, xtup, xlst, xcall, xisi, xnot, xand, xor, xife, xtru, xcst, tand, tor, tnot, tyes, acons, anil, xvar, slot_z, slot_s, mslot_z, mslot_s, opt_some, bnd_ok, bu_gcd, Int.natAbs_natCast, setT, List.set_cons_succ, List.set_cons_zero, Option.map_some, small0, small1, small2, small3, idx_tup, idx_lst, at2_0, at2_1, at1_0, bo_add, bo_sub, co_lt, co_le, co_gt, co_ge, co_isN, ne_int, eqc_int, tru_bl, tru_int, tru_non, tru_lst, bu_int, bu_abs, bu_lenT, bu_lenL, bu_tupT, bu_tupL, isi_lt, isi_ll, isi_ii, isi_ib, isi_bi, isi_bb, decide_true, decide_false, Bool.not_true, Bool.not_false, Bool.false_eq_true, if_false, D.isNon, negF, need_valueF, need_valueB, bnd_ex]
theorem need_number_t {i l m : Int} (d : D) (w : Pn) (h1 : l ≤ i) (h2 : i ≤ m) : need_numberF [.int i, d, .int l, .int m] w = some (.ok .non w) := by
  have e := is_within_ii i l m w
  rw [decide_eq_true h1, decide_eq_true h2] at e
  simp only [fnF, List.length_cons, List.length_nil, Nat.reduceAdd, Nat.reduceSub, if_true, start_eq, List.map_cons, List.map_nil, List.cons_append, List.nil_append, List.append_nil, List.replicate, scons, snil_eq, spass_eq, sasg, sret, sexpr, site, srais, saug, spar2, spar3, xbui, xbin, xcmp, xneg, xidx, xtup, xlst, xcall, xisi, xnot, xand, xor, xife, xtru, xcst, tand, tor, tnot, tyes, acons, anil, xvar, slot_z, slot_s, mslot_z, mslot_s, opt_some, bnd_ok, bu_gcd, Int.natAbs_natCast, setT, List.set_cons_succ, List.set_cons_zero, Option.map_some, small0, small1, small2, small3, idx_tup, idx_lst, at2_0, at2_1, at1_0, bo_add, bo_sub, co_lt, co_le, co_gt, co_ge, co_isN, ne_int, eqc_int, tru_bl, tru_int, tru_non, tru_lst, bu_int, bu_abs, bu_lenT, bu_lenL, bu_tupT, bu_tupL, isi_lt, isi_ll, isi_ii, isi_ib, isi_bi, isi_bb, decide_true, decide_false, Bool.not_true, Bool.not_false, Bool.false_eq_true, if_false, D.isNon, negF, need_numberF, need_numberB, e, Bool.and_self]
theorem c22 : (((2 : Nat) : Int) == 2) = true := rfl
theorem c11 : (((1 : Nat) : Int) == 1) = true := rfl
theorem is_fraction_rat (q : Rat) (w : Pn) : is_fractionF [D.rat q] w = some (.ok (.bl true) w) := by
  have h1 : (1 : Int) ≤ (q.den : Int) := by have := q.den_pos; omega
  have g : q.num.natAbs.gcd q.den = 1 := q.reduced
  have e1 := is_within_nn q.num w
  have e2 := is_within_in (q.den : Int) 1 w
  rw [decide_eq_true h1] at e2
  unfold D.rat
  simp only [fnF, List.length_cons, List.length_nil, Nat.reduceAdd, Nat.reduceSub, if_true, start_eq, List.map_cons, List.map_nil, List.cons_append, List.nil_append, List.append_nil, List.replicate, scons, snil_eq, spass_eq, sasg, sret, sexpr, site, srais, saug, spar2, spar3, xbui, xbin, xcmp, xneg, xidx, xtup, xlst, xcall, xisi, xnot, xand, xor, xife, xtru, xcst, tand, tor, tnot, tyes, acons, anil, xvar, slot_z, slot_s, mslot_z, mslot_s, opt_some, bnd_ok, bu_gcd, Int.natAbs_natCast, setT, List.set_cons_succ, List.set_cons_zero, Option.map_some, small0, small1, small2, small3, idx_tup, idx_lst, at2_0, at2_1, at1_0, bo_add, bo_sub, co_lt, co_le, co_gt, co_ge, co_isN, ne_int, eqc_int, tru_bl, tru_int, tru_non, tru_lst, bu_int, bu_abs, bu_lenT, bu_lenL, bu_tupT, bu_tupL, isi_lt, isi_ll, isi_ii, isi_ib, isi_bi, isi_bb, decide_true, decide_false, Bool.not_true, Bool.not_false, Bool.false_eq_true, if_false, D.isNon, negF, is_fractionF, is_fractionB, is_listed_t, e1, e2, g, c22, c11]
theorem bools_all {α : Type} (f : α → D) : ∀ xs : List α, (∀ x ∈ xs, f x = .bl true) → buF .all [.lst (xs.map f)] = some (.bl true) := by
  intro xs h
  have key : boolsOf (xs.map f) = some (xs.map fun _ => true) := by
    induction xs with
    | nil => rfl
    | cons x r ih =>
      rw [List.map_cons, h x List.mem_cons_self]
      unfold boolsOf
      rw [ih fun y hy => h y (List.mem_cons_of_mem _ hy)]
      rfl
  show (boolsOf (xs.map f)).map (fun bs => D.bl (bs.all id)) = _
  rw [key]
  simp
theorem are_fractions_rat (qs : List Rat) (w : Pn) (hl : qs.length ≤ 1000000) : are_fractionsF [.tup (qs.map D.rat), .int (qs.length : Int)] w = some (.ok (.bl true) w) := by
  have e := comp_of (σ := [some (.val (.tup (qs.map D.rat))), some (.val (.int (qs.length : Int))), none]) (own := [2]) (t := .nm 2) (s := srcSeq (xvar 0)) (e := xcall is_fractionF (acons (xvar 2) anil)) (w := w) qs D.rat (fun _ => D.bl true) (by simp only [fnF, List.length_cons, List.length_nil, Nat.reduceAdd, Nat.reduceSub, if_true, start_eq, List.map_cons, List.map_nil, List.cons_append, List.nil_append, List.append_nil, List.replicate, scons, snil_eq, spass_eq, sasg, sret, sexpr, site, srais, saug, spar2, spar3, xbui, xbin, xcmp, xneg, xidx, xtup, xlst, xcall, xisi, xnot, xand, xor, xife, xtru, xcst, tand, tor, tnot, tyes, acons, anil, xvar, slot_z, slot_s, mslot_z, mslot_s, opt_some, bnd_ok, bu_gcd, Int.natAbs_natCast, setT, List.set_cons_succ, List.set_cons_zero, Option.map_some, small0, small1, small2, small3, idx_tup, idx_lst, at2_0, at2_1, at1_0, bo_add, bo_sub, co_lt, co_le, co_gt, co_ge, co_isN, ne_int, eqc_int, tru_bl, tru_int, tru_non, tru_lst, bu_int, bu_abs, bu_lenT, bu_lenL, bu_tupT, bu_tupL, isi_lt, isi_ll, isi_ii, isi_ib, isi_bi, isi_bb, decide_true, decide_false, Bool.not_true, Bool.not_false, Bool.false_eq_true, if_false, D.isNon, negF, srcSeq, seq_t]) (fun q hq => ⟨_, rfl, by simp only [fnF, List.length_cons, List.length_nil, Nat.reduceAdd, Nat.reduceSub, if_true, start_eq, List.map_cons, List.map_nil, List.cons_append, List.nil_append, List.append_nil, List.replicate, scons, snil_eq, spass_eq, sasg, sret, sexpr, site, srais, saug, spar2, spar3, xbui, xbin, xcmp, xneg, xidx, xtup, xlst, xcall, xisi, xnot, xand, xor, xife, xtru, xcst, tand, tor, tnot, tyes, acons, anil, xvar, slot_z, slot_s, mslot_z, mslot_s, opt_some, bnd_ok, bu_gcd, Int.natAbs_natCast, setT, List.set_cons_succ, List.set_cons_zero, Option.map_some, small0, small1, small2, small3, idx_tup, idx_lst, at2_0, at2_1, at1_0, bo_add, bo_sub, co_lt, co_le, co_gt, co_ge, co_isN, ne_int, eqc_int, tru_bl, tru_int, tru_non, tru_lst, bu_int, bu_abs, bu_lenT, bu_lenL, bu_tupT, bu_tupL, isi_lt, isi_ll, isi_ii, isi_ib, isi_bi, isi_bb, decide_true, decide_false, Bool.not_true, Bool.not_false, Bool.false_eq_true, if_false, D.isNon, negF, wipeE, is_fraction_rat]⟩) hl
  have a := bools_all (fun _ : Rat => D.bl true) qs fun _ _ => rfl
  simp only [fnF, List.length_cons, List.length_nil, Nat.reduceAdd, Nat.reduceSub, if_true, start_eq, List.map_cons, List.map_nil, List.cons_append, List.nil_append, List.append_nil, List.replicate, scons, snil_eq, spass_eq, sasg, sret, sexpr, site, srais, saug, spar2, spar3, xbui, xbin, xcmp, xneg, xidx, xtup, xlst, xcall, xisi, xnot, xand, xor, xife, xtru, xcst, tand, tor, tnot, tyes, acons, anil, xvar, slot_z, slot_s, mslot_z, mslot_s, opt_some, bnd_ok, bu_gcd, Int.natAbs_natCast, setT, List.set_cons_succ, List.set_cons_zero, Option.map_some, small0, small1, small2, small3, idx_tup, idx_lst, at2_0, at2_1, at1_0, bo_add, bo_sub, co_lt, co_le, co_gt, co_ge, co_isN, ne_int, eqc_int, tru_bl, tru_int, tru_non, tru_lst, bu_int, bu_abs, bu_lenT, bu_lenL, bu_tupT, bu_tupL, isi_lt, isi_ll, isi_ii, isi_ib, isi_bi, isi_bb, decide_true, decide_false, Bool.not_true, Bool.not_false, Bool.false_eq_true, if_false, D.isNon, negF, are_fractionsF, are_fractionsB, is_listed_t, List.length_map, beq_self_eq_true, e, a]
end Rh
set_option Elab.async false
set_option linter.all false
set_option maxRecDepth 100000
set_option maxHeartbeats 4000000
/-! Rh: the plane: bulges of greatest worths, corners within. -/
namespace Rh
open PySem L2
theorem mul_le {c x y : Rat} (hc : 0 ≤ c) (h : x ≤ y) : c * x ≤ c * y := Rat.mul_le_mul_of_nonneg_left h hc
theorem mul_ge {c x y : Rat} (hc : c ≤ 0) (h : x ≤ y) : c * y ≤ c * x := by
  have := mul_le (c := -c) (by grind) h
  grind
theorem dot_2 (a b : Int) (x y : Rat) : dot [a, b] [x, y] = x * (a : Rat) + y * (b : Rat) := by
  show x * (a : Rat) + (y * (b : Rat) + 0) = _
  rw [Rat.add_zero]
theorem dot_1 (a : Int) (x : Rat) : dot [a] [x] = x * (a : Rat) := by
  show x * (a : Rat) + 0 = _
  rw [Rat.add_zero]
theorem geo_bulge {T1 T2 T3 h1 h2 h3 d1 d2 d3 : Rat} (t1 : 0 ≤ T1) (t2 : 0 ≤ T2) (e : T1 * d1 + T2 * d3 = T3 * d2) (k1 : d1 ≤ h1) (k3 : d3 ≤ h3) (c : T3 * h2 ≤ T3 * d2) : 0 ≤ T1 * h1 + T2 * h3 - T3 * h2 := by
  have a1 := mul_le t1 k1
  have a2 := mul_le t2 k3
  grind
theorem geo_corner {W A B h1 h2 hr d1 d2 dr : Rat} (w : 0 ≤ W) (e : W * dr = A * d1 + B * d2) (k : dr ≤ hr) (c1 : A * h1 ≤ A * d1) (c2 : B * h2 ≤ B * d2) : A * h1 + B * h2 ≤ W * hr := by
  have a1 := mul_le w k
  grind
/-- the bulge of three rays, by greatest worths -/
theorem bulge_ge {n : Nat} {a b c d e f : Int} {pts : List (List Rat)} (hp : ∀ p ∈ pts, PtOk 2 n p) (h0 : pts ≠ []) (t1 : 0 ≤ c * f - d * e) (t2 : 0 ≤ a * d - b * c) :
    0 ≤ ((c * f - d * e : Int) : Rat) * great [a, b] pts + ((a * d - b * c : Int) : Rat) * great [e, f] pts - ((a * f - b * e : Int) : Rat) * great [c, d] pts := by
  have fin : ∀ s ∈ pts, ((a * f - b * e : Int) : Rat) * great [c, d] pts ≤ ((a * f - b * e : Int) : Rat) * dot [c, d] s → 0 ≤ ((c * f - d * e : Int) : Rat) * great [a, b] pts + ((a * d - b * c : Int) : Rat) * great [e, f] pts - ((a * f - b * e : Int) : Rat) * great [c, d] pts := by
    intro s hs k
    obtain ⟨x, y, rfl⟩ := two_len (hp s hs).len
    refine geo_bulge (d1 := dot [a, b] [x, y]) (d2 := dot [c, d] [x, y]) (d3 := dot [e, f] [x, y]) (by exact_mod_cast t1) (by exact_mod_cast t2) ?_ (great_ge hs) (great_ge hs) k
    rw [dot_2, dot_2, dot_2]
    push_cast
    grind
  by_cases c3 : 0 ≤ a * f - b * e
  · obtain ⟨s, hs, e1⟩ := great_is [c, d] h0
    exact fin s hs (by rw [e1]; exact Rat.le_refl)
  · obtain ⟨s, hs⟩ := List.exists_mem_of_ne_nil _ h0
    exact fin s hs (mul_ge (by have : a * f - b * e ≤ 0 := by omega
                               exact_mod_cast this) (great_ge hs))
/-- a corner of two rays is within a third one's half, unless this lies between them -/
theorem corner_le {n : Nat} {a b c d e f : Int} {pts : List (List Rat)} {W : Nat} (hp : ∀ p ∈ pts, PtOk 2 n p) (h0 : pts ≠ []) (hw : a * d - b * c = (W : Int)) (hW : W ≠ 0) (hc : ¬ (0 < e * d - f * c ∧ 0 < a * f - b * e)) :
    dot [e, f] [(great [a, b] pts * (d : Rat) + great [c, d] pts * ((-b : Int) : Rat)) / (W : Rat), (great [a, b] pts * ((-c : Int) : Rat) + great [c, d] pts * (a : Rat)) / (W : Rat)] ≤ great [e, f] pts := by
  have W0 : (0 : Rat) < (W : Rat) := by
    have : (0 : Int) < (W : Int) := by omega
    exact_mod_cast this
  have wq : (W : Rat) = ((a * d - b * c : Int) : Rat) := by rw [hw]; rfl
  have fin : ∀ s ∈ pts, ((e * d - f * c : Int) : Rat) * great [a, b] pts ≤ ((e * d - f * c : Int) : Rat) * dot [a, b] s → ((a * f - b * e : Int) : Rat) * great [c, d] pts ≤ ((a * f - b * e : Int) : Rat) * dot [c, d] s →
      ((e * d - f * c : Int) : Rat) * great [a, b] pts + ((a * f - b * e : Int) : Rat) * great [c, d] pts ≤ (W : Rat) * great [e, f] pts := by
    intro s hs k1 k2
    obtain ⟨x, y, rfl⟩ := two_len (hp s hs).len
    refine geo_corner (d1 := dot [a, b] [x, y]) (d2 := dot [c, d] [x, y]) (dr := dot [e, f] [x, y]) (Rat.le_of_lt W0) ?_ (great_ge hs) k1 k2
    rw [dot_2, dot_2, dot_2, wq]
    push_cast
    grind
  have all : ((e * d - f * c : Int) : Rat) * great [a, b] pts + ((a * f - b * e : Int) : Rat) * great [c, d] pts ≤ (W : Rat) * great [e, f] pts := by
    by_cases cA : 0 < e * d - f * c
    · have cB : a * f - b * e ≤ 0 := by
        have : ¬ 0 < a * f - b * e := fun z => hc ⟨cA, z⟩
        omega
      obtain ⟨s, hs, e1⟩ := great_is [a, b] h0
      exact fin s hs (by rw [e1]; exact Rat.le_refl) (mul_ge (by exact_mod_cast cB) (great_ge hs))
    · have cA' : e * d - f * c ≤ 0 := by omega
      obtain ⟨s, hs, e1⟩ := great_is [c, d] h0
      exact fin s hs (mul_ge (by exact_mod_cast cA') (great_ge hs)) (by rw [e1]; exact Rat.le_refl)
  rw [dot_2]
  refine Rat.le_of_mul_le_mul_right (c := (W : Rat)) ?_ W0
  have hne : (W : Rat) ≠ 0 := fun z => by rw [z] at W0; exact absurd W0 (by decide)
  have e1 : ((great [a, b] pts * (d : Rat) + great [c, d] pts * ((-b : Int) : Rat)) / (W : Rat) * (e : Rat) + (great [a, b] pts * ((-c : Int) : Rat) + great [c, d] pts * (a : Rat)) / (W : Rat) * (f : Rat)) * (W : Rat)
      = ((e * d - f * c : Int) : Rat) * great [a, b] pts + ((a * f - b * e : Int) : Rat) * great [c, d] pts := by
    push_cast
    grind
  rw [e1, Rat.mul_comm (great [e, f] pts)]
  exact all
end Rh
set_option Elab.async false
set_option linter.all false
set_option maxRecDepth 100000
set_option maxHeartbeats 4000000
/-! Rh: common bottoms. -/
namespace Rh
open PySem L2
/-- found * bottom // gcd -/
def lcmStep (B : Nat × Nat) (q : Rat) : Nat × Nat := (B.1 * q.den / B.1.gcd q.den, B.2 + 1)
def botOf (qs : List Rat) : Nat := (qs.foldl lcmStep (1, 0)).1
theorem lcm_step_eq (B : Nat × Nat) (q : Rat) : (lcmStep B q).1 = B.1.lcm q.den := rfl
theorem bot_fold : ∀ (qs : List Rat) (B : Nat × Nat), 0 < B.1 → 0 < (qs.foldl lcmStep B).1 ∧ B.1 ∣ (qs.foldl lcmStep B).1 ∧ ∀ q ∈ qs, q.den ∣ (qs.foldl lcmStep B).1
  | [], B, h => ⟨h, Nat.dvd_refl _, by simp⟩
  | q :: qs, B, h => by
    have h1 : 0 < (lcmStep B q).1 := by rw [lcm_step_eq]; exact Nat.lcm_pos h q.den_pos
    obtain ⟨g1, g2, g3⟩ := bot_fold qs (lcmStep B q) h1
    rw [List.foldl_cons]
    refine ⟨g1, Nat.dvd_trans ?_ g2, fun p hp => ?_⟩
    · rw [lcm_step_eq]; exact Nat.dvd_lcm_left _ _
    · rcases List.mem_cons.mp hp with z | z
      · rw [z]; exact Nat.dvd_trans (by rw [lcm_step_eq]; exact Nat.dvd_lcm_right _ _) g2
      · exact g3 p z
theorem bot_pos (qs : List Rat) : 0 < botOf qs := (bot_fold qs (1, 0) (by decide)).1
theorem bot_dvd {qs : List Rat} {q : Rat} (h : q ∈ qs) : q.den ∣ botOf qs := (bot_fold qs (1, 0) (by decide)).2.2 q h
theorem shared_bottom_eq {n : Nat} {qs : List Rat} (w : Pn) (h : ∀ q ∈ qs, Bd n q) (hn : n * (qs.length + 1) + 1 ≤ 8000) :
    shared_bottomF [.lst (qs.map D.rat)] w = some (.ok (.int (botOf qs : Int)) w) ∧ Sz (n * qs.length + 1) (botOf qs : Int) := by
  have main : ∀ (ps : List Rat) (B : Nat × Nat) (σ : En), (∀ q ∈ ps, Bd n q) → 0 < B.1 → Sz (n * B.2 + 1) (B.1 : Int) → B.2 + ps.length ≤ qs.length → (∃ x, σ = [some (.val (.lst (qs.map D.rat))), some (.val (.int (B.1 : Int))), x]) →
      ∃ σ', forL (.nm 2) (scons (sasg (.nm 1) (xbin .fdiv (xbin .mul (xvar 1) (xidx (xvar 2) (xcst (.int 1)))) (xbui .gcd (acons (xvar 1) (acons (xidx (xvar 2) (xcst (.int 1))) anil))))) snil) (ps.map D.rat) σ w = some (.ok (.nx σ') w) ∧ (∃ x, σ' = [some (.val (.lst (qs.map D.rat))), some (.val (.int ((ps.foldl lcmStep B).1 : Int))), x]) ∧ Sz (n * (B.2 + ps.length) + 1) ((ps.foldl lcmStep B).1 : Int) := by
    intro ps
    induction ps with
    | nil => intro B σ _ _ hz _ hσ; exact ⟨σ, rfl, hσ, hz⟩
    | cons q r ih =>
      rintro B σ hb hB hz hl ⟨x, rfl⟩
      simp only [List.length_cons] at hl
      have hq := hb q List.mem_cons_self
      have hk : n * B.2 + n ≤ 8000 := by
        have : n * (B.2 + 1) ≤ n * (qs.length + 1) := Nat.mul_le_mul_left _ (by omega)
        rw [Nat.mul_succ] at this
        omega
      have m1 := mul_ok hz hq.den (by omega)
      have gp : 0 < B.1.gcd q.den := Nat.gcd_pos_of_pos_left _ hB
      have gl : B.1.gcd q.den ≤ q.den := Nat.gcd_le_right _ q.den_pos
      have dv : divOk ((B.1.gcd q.den : Nat) : Int) = true := div_ok (n := n) (by
        have := hq.den
        unfold Sz at *
        simp only [Int.natAbs_natCast] at *
        omega) (by omega) (by omega)
      have ev : ((B.1 : Int) * (q.den : Int)) / ((B.1.gcd q.den : Nat) : Int) = ((lcmStep B q).1 : Int) := by
        show _ = ((B.1 * q.den / B.1.gcd q.den : Nat) : Int)
        rw [← Int.natCast_mul, ← Int.natCast_ediv]
      have hz' : Sz (n * (lcmStep B q).2 + 1) ((lcmStep B q).1 : Int) := by
        have a1 := hz.mul hq.den
        rw [← Int.natCast_mul] at a1
        show Sz (n * (B.2 + 1) + 1) ((B.1 * q.den / B.1.gcd q.den : Nat) : Int)
        rw [Nat.mul_succ]
        have a2 : Sz (n * B.2 + n + 1) ((B.1 * q.den : Nat) : Int) := a1.mono (by omega)
        unfold Sz at *
        simp only [Int.natAbs_natCast] at *
        exact Nat.lt_of_le_of_lt (Nat.div_le_self _ _) a2
      obtain ⟨σ', e1, e2, e3⟩ := ih (lcmStep B q) [some (.val (.lst (qs.map D.rat))), some (.val (.int ((lcmStep B q).1 : Int))), some (.val (D.rat q))] (fun p hp => hb p (List.mem_cons_of_mem _ hp)) (by rw [lcm_step_eq]; exact Nat.lcm_pos hB q.den_pos) hz' (by show B.2 + 1 + r.length ≤ _; omega) ⟨_, rfl⟩
      refine ⟨σ', ?_, e2, ?_⟩
      · have v : idxF (D.rat q) (.int 1) = some (.int (q.den : Int)) := rfl
        rw [List.map_cons]
        rw [forL]
        simp only [fnF, List.length_cons, List.length_nil, Nat.reduceAdd, Nat.reduceSub, if_true, start_eq, List.map_cons, List.map_nil, List.cons_append, List.nil_append, List.append_nil, List.replicate, scons, snil_eq, spass_eq, sasg, sret, sexpr, site, srais, saug, spar2, spar3, xbui, xbin, xcmp, xneg, xidx, xtup, xlst, xcall, xisi, xnot, xand, xor, xife, xtru, xcst, tand, tor, tnot, tyes, acons, anil, xvar, slot_z, slot_s, mslot_z, mslot_s, opt_some, bnd_ok, bu_gcd, Int.natAbs_natCast, setT, List.set_cons_succ, List.set_cons_zero, Option.map_some, small0, small1, small2, small3, idx_tup, idx_lst, at2_0, at2_1, at1_0, bo_add, bo_sub, co_lt, co_le, co_gt, co_ge, co_isN, ne_int, eqc_int, tru_bl, tru_int, tru_non, tru_lst, bu_int, bu_abs, bu_lenT, bu_lenL, bu_tupT, bu_tupL, isi_lt, isi_ll, isi_ii, isi_ib, isi_bi, isi_bb, decide_true, decide_false, Bool.not_true, Bool.not_false, Bool.false_eq_true, if_false, D.isNon, negF, v, bo_mul m1, bo_fdiv dv, ev, e1]
      · rw [List.foldl_cons]
        have : n * ((lcmStep B q).2 + r.length) + 1 = n * (B.2 + (q :: r).length) + 1 := by
          show n * (B.2 + 1 + r.length) + 1 = _
          rw [List.length_cons]; congr 2; omega
        rw [← this]; exact e3
  obtain ⟨σ', e1, ⟨x, rfl⟩, e3⟩ := main qs (1, 0) [some (.val (.lst (qs.map D.rat))), some (.val (.int 1)), none] h (by decide) (by unfold Sz; simp) (by simp) ⟨none, rfl⟩
  refine ⟨?_, by unfold botOf; simpa using e3⟩
  simp only [fnF, List.length_cons, List.length_nil, Nat.reduceAdd, Nat.reduceSub, if_true, start_eq, List.map_cons, List.map_nil, List.cons_append, List.nil_append, List.append_nil, List.replicate, scons, snil_eq, spass_eq, sasg, sret, sexpr, site, srais, saug, spar2, spar3, xbui, xbin, xcmp, xneg, xidx, xtup, xlst, xcall, xisi, xnot, xand, xor, xife, xtru, xcst, tand, tor, tnot, tyes, acons, anil, xvar, slot_z, slot_s, mslot_z, mslot_s, opt_some, bnd_ok, bu_gcd, Int.natAbs_natCast, setT, List.set_cons_succ, List.set_cons_zero, Option.map_some, small0, small1, small2, small3, idx_tup, idx_lst, at2_0, at2_1, at1_0, bo_add, bo_sub, co_lt, co_le, co_gt, co_ge, co_isN, ne_int, eqc_int, tru_bl, tru_int, tru_non, tru_lst, bu_int, bu_abs, bu_lenT, bu_lenL, bu_tupT, bu_tupL, isi_lt, isi_ll, isi_ii, isi_ib, isi_bi, isi_bb, decide_true, decide_false, Bool.not_true, Bool.not_false, Bool.false_eq_true, if_false, D.isNon, negF, shared_bottomF, shared_bottomB, sfor, srcSeq, seq_l, e1]
  rfl
theorem over_it_eq {n m : Nat} {q : Rat} {B : Nat} (w : Pn) (hq : Bd n q) (hB : Sz m (B : Int)) (hn : n ≤ 8000) (hm : n + m ≤ 800000) : over_itF [D.rat q, .int (B : Int)] w = some (.ok (.int (q.num * ((B : Int) / (q.den : Int)))) w) := by
  have d1 : divOk (q.den : Int) = true := div_ok hq.den hn (by have := q.den_pos; omega)
  have hz : Sz m ((B : Int) / (q.den : Int)) := by
    rw [← Int.natCast_ediv]
    unfold Sz at *
    simp only [Int.natAbs_natCast] at *
    exact Nat.lt_of_le_of_lt (Nat.div_le_self _ _) hB
  have m1 := mul_ok hq.num hz (by omega)
  unfold D.rat
  simp only [fnF, List.length_cons, List.length_nil, Nat.reduceAdd, Nat.reduceSub, if_true, start_eq, List.map_cons, List.map_nil, List.cons_append, List.nil_append, List.append_nil, List.replicate, scons, snil_eq, spass_eq, sasg, sret, sexpr, site, srais, saug, spar2, spar3, xbui, xbin, xcmp, xneg, xidx, xtup, xlst, xcall, xisi, xnot, xand, xor, xife, xtru, xcst, tand, tor, tnot, tyes, acons, anil, xvar, slot_z, slot_s, mslot_z, mslot_s, opt_some, bnd_ok, bu_gcd, Int.natAbs_natCast, setT, List.set_cons_succ, List.set_cons_zero, Option.map_some, small0, small1, small2, small3, idx_tup, idx_lst, at2_0, at2_1, at1_0, bo_add, bo_sub, co_lt, co_le, co_gt, co_ge, co_isN, ne_int, eqc_int, tru_bl, tru_int, tru_non, tru_lst, bu_int, bu_abs, bu_lenT, bu_lenL, bu_tupT, bu_tupL, isi_lt, isi_ll, isi_ii, isi_ib, isi_bi, isi_bb, decide_true, decide_false, Bool.not_true, Bool.not_false, Bool.false_eq_true, if_false, D.isNon, negF, over_itF, over_itB, bo_fdiv d1, bo_mul m1]
/-- it is the fraction, times the bottom -/
theorem over_rat {q : Rat} {B : Nat} (h : q.den ∣ B) : ((q.num * ((B : Int) / (q.den : Int)) : Int) : Rat) = q * (B : Rat) := by
  obtain ⟨c, rfl⟩ := h
  have hd := q.den_pos
  have e : (((q.den * c : Nat) : Int) / (q.den : Int)) = (c : Int) := by
    rw [Int.natCast_mul, Int.mul_ediv_cancel_left _ (by omega)]
  rw [e]
  have h1 := den0 q
  have e1 := rat_num_den q
  have e2 : ((q.num : Int) : Rat) = q * ((q.den : Nat) : Rat) := by rw [← Rat.div_mul_cancel h1 (a := ((q.num : Int) : Rat)), e1]
  push_cast
  rw [e2]
  grind
end Rh
set_option Elab.async false
set_option linter.all false
set_option maxRecDepth 100000
set_option maxHeartbeats 4000000
/-! Rh: are_round. -/
namespace Rh
open PySem L2
def three (m i : Nat) : D := .tup [.int (i : Int), .int (((i + 1) % m : Nat) : Int), .int (((i + 2) % m : Nat) : Int)]
theorem b62 {m : Nat} (h : m ≤ 1000) : bound62 (m : Int) = true := by
  have h1 : (-(2 ^ 62) : Int) ≤ (m : Int) := by omega
  have h2 : (m : Int) < 2 ^ 62 := by omega
  simp only [bound62, decide_eq_true h1, decide_eq_true h2, Bool.and_self]
theorem rng_eq {m : Nat} {a : XF} {σ : En} {w : Pn} (h : a σ w = some (.ok (.int (m : Int)) w)) (hm : m ≤ 1000) : srcRng1 a σ w = some (.ok ((List.range m).map fun (i : Nat) => D.int (i : Int)) w) := by
  have hb := b62 hm
  generalize hM : (m : Int) = M at *
  have hT : M.toNat = m := by rw [← hM]; simp
  unfold srcRng1
  rw [h, bnd_ok]
  show (if bound62 M = true then some (Out.ok ((List.range M.toNat).map fun (i : Nat) => D.int (0 + (i : Int))) w) else none) = _
  rw [if_pos hb, hT]
  simp only [Int.zero_add]
theorem threes_el {R : D} {n i : Nat} (w : Pn) (hpos : (0 : Int) < (n : Int)) : xtup (acons (xvar 2) (acons (xbin .mod (xbin .add (xvar 2) (xcst (.int 1))) (xvar 1)) (acons (xbin .mod (xbin .add (xvar 2) (xcst (.int 2))) (xvar 1)) anil))) [some (.val R), some (.val (.int (n : Int))), some (.val (.int (i : Int)))] w = some (.ok (three n i) w) := by
  have h1 : ((i : Int) + 1) % (n : Int) = (((i + 1) % n : Nat) : Int) := by simp
  have h2 : ((i : Int) + 2) % (n : Int) = (((i + 2) % n : Nat) : Int) := by simp
  unfold three
  simp only [xtup, acons, anil, xvar, xbin, xcst, slot_z, slot_s, opt_some, bnd_ok, bo_add, bo_mod hpos, h1, h2, List.length_cons, List.length_nil, Nat.reduceAdd, small3, if_true]
theorem z1 {R : List D} {n : Nat} (w : Pn) (hl : R.length = n) : sasg (.nm 1) (xbui .len (acons (xvar 0) anil)) [some (.val (.tup R)), none, none] w = some (.ok (.nx [some (.val (.tup R)), some (.val (.int (n : Int))), none]) w) := by
  subst hl
  rfl
theorem z2 {C : XF} {R : List D} {n : Nat} {d : D} (w : Pn) (hl : R.length = n) (e : C [some (.val (.tup R)), some (.val (.int (n : Int))), none] w = some (.ok d w)) : fnF 1 3 (scons (sasg (.nm 1) (xbui .len (acons (xvar 0) anil))) (scons (sret C) snil)) [D.tup R] w = some (.ok d w) := by
  have b1 := z1 w hl
  show (bnd (bnd (sasg (.nm 1) (xbui .len (acons (xvar 0) anil)) [some (.val (.tup R)), none, none] w) _) _) = _
  rw [b1]
  show (bnd (bnd (bnd (C [some (.val (.tup R)), some (.val (.int (n : Int))), none] w) _) _) _) = _
  rw [e]
  rfl
theorem threes_eq {rays : List (List Int)} (w : Pn) (h0 : 0 < rays.length) (hm : rays.length ≤ 1000) : threesF [.tup (rays.map D.ray)] w = some (.ok (.lst ((List.range rays.length).map (three rays.length))) w) := by
  have hl : (rays.map D.ray).length = rays.length := List.length_map _
  generalize hR : rays.map D.ray = R at *
  generalize rays.length = n at *
  have hpos : (0 : Int) < (n : Int) := by omega
  have e := comp_of (σ := [some (.val (.tup R)), some (.val (.int (n : Int))), none]) (own := [2]) (t := .nm 2) (s := srcRng1 (xvar 1)) (e := xtup (acons (xvar 2) (acons (xbin .mod (xbin .add (xvar 2) (xcst (.int 1))) (xvar 1)) (acons (xbin .mod (xbin .add (xvar 2) (xcst (.int 2))) (xvar 1)) anil)))) (w := w)
    (List.range n) (fun (i : Nat) => D.int (i : Int)) (three n) (rng_eq rfl hm) (fun i hi => ⟨[some (.val (.tup R)), some (.val (.int (n : Int))), some (.val (.int (i : Int)))], rfl, threes_el w hpos⟩) (by rw [List.length_range]; omega)
  exact z2 w hl e
theorem bulge_eq {z : Nat} {rays : List (List Int)} {ts : List Int} {m i : Nat} {a b c d e f t1 t2 t3 : Int} (w : Pn) (hm : rays.length = m) (h2 : m ≤ 1000) (h3 : ts.length = m)
    (r1 : rays[i]? = some [a, b]) (r2 : rays[(i + 1) % m]? = some [c, d]) (r3 : rays[(i + 2) % m]? = some [e, f]) (u1 : ts[i]? = some t1) (u2 : ts[(i + 1) % m]? = some t2) (u3 : ts[(i + 2) % m]? = some t3)
    (s : ∀ r ∈ rays, RayOk 2 r) (st : ∀ t ∈ ts, Sz z t) (hz : z ≤ 100000) :
    bulgeF [.tup (rays.map D.ray), three m i, .lst (ts.map .int)] w = some (.ok (.int ((c * f - d * e) * t1 + (a * d - b * c) * t3 - (a * f - b * e) * t2)) w) := by
  have k1 := s _ (List.mem_of_getElem? r1)
  have k2 := s _ (List.mem_of_getElem? r2)
  have k3 := s _ (List.mem_of_getElem? r3)
  have ha := k1.sz a (by simp)
  have hb := k1.sz b (by simp)
  have hc := k2.sz c (by simp)
  have hd := k2.sz d (by simp)
  have he := k3.sz e (by simp)
  have hf := k3.sz f (by simp)
  have v1 := st _ (List.mem_of_getElem? u1)
  have v2 := st _ (List.mem_of_getElem? u2)
  have v3 := st _ (List.mem_of_getElem? u3)
  have g1 : idxF (.tup (rays.map D.ray)) (.int (i : Int)) = some (D.ray [a, b]) := at_tup (by rw [List.getElem?_map, r1]; rfl) (by simp; omega)
  have g2 : idxF (.tup (rays.map D.ray)) (.int (((i + 1) % m : Nat) : Int)) = some (D.ray [c, d]) := at_tup (by rw [List.getElem?_map, r2]; rfl) (by simp; omega)
  have g3 : idxF (.tup (rays.map D.ray)) (.int (((i + 2) % m : Nat) : Int)) = some (D.ray [e, f]) := at_tup (by rw [List.getElem?_map, r3]; rfl) (by simp; omega)
  have n1 : idxF (.lst (ts.map .int)) (.int (i : Int)) = some (.int t1) := at_nat (by rw [List.getElem?_map, u1]; rfl) (by simp; omega)
  have n2 : idxF (.lst (ts.map .int)) (.int (((i + 1) % m : Nat) : Int)) = some (.int t2) := at_nat (by rw [List.getElem?_map, u2]; rfl) (by simp; omega)
  have n3 : idxF (.lst (ts.map .int)) (.int (((i + 2) % m : Nat) : Int)) = some (.int t3) := at_nat (by rw [List.getElem?_map, u3]; rfl) (by simp; omega)
  have c1 : ∀ x y z, xcomp [6] (.nm 6) (srcSeq (xvar 1)) tyes (xidx (xvar 0) (xvar 6)) [some (.val (.tup (rays.map D.ray))), some (.val (three m i)), some (.val (.lst (ts.map .int))), x, y, z, none, none, none, none] w = some (.ok (.lst [D.ray [a, b], D.ray [c, d], D.ray [e, f]]) w) := by
    intro x y z
    unfold three
    simp only [fnF, List.length_cons, List.length_nil, Nat.reduceAdd, Nat.reduceSub, if_true, start_eq, List.map_cons, List.map_nil, List.cons_append, List.nil_append, List.append_nil, List.replicate, scons, snil_eq, spass_eq, sasg, sret, sexpr, site, srais, saug, spar2, spar3, xbui, xbin, xcmp, xneg, xidx, xtup, xlst, xcall, xisi, xnot, xand, xor, xife, xtru, xcst, tand, tor, tnot, tyes, acons, anil, xvar, slot_z, slot_s, mslot_z, mslot_s, opt_some, bnd_ok, bu_gcd, Int.natAbs_natCast, setT, List.set_cons_succ, List.set_cons_zero, Option.map_some, small0, small1, small2, small3, idx_tup, idx_lst, at2_0, at2_1, at1_0, bo_add, bo_sub, co_lt, co_le, co_gt, co_ge, co_isN, ne_int, eqc_int, tru_bl, tru_int, tru_non, tru_lst, bu_int, bu_abs, bu_lenT, bu_lenL, bu_tupT, bu_tupL, isi_lt, isi_ll, isi_ii, isi_ib, isi_bi, isi_bb, decide_true, decide_false, Bool.not_true, Bool.not_false, Bool.false_eq_true, if_false, D.isNon, negF, xcomp, srcSeq, seq_t, compL, wipeE, g1, g2, g3, noEx]
  have c2 : ∀ x y z, xcomp [6] (.nm 6) (srcSeq (xvar 1)) tyes (xidx (xvar 2) (xvar 6)) [some (.val (.tup (rays.map D.ray))), some (.val (three m i)), some (.val (.lst (ts.map .int))), x, y, z, none, none, none, none] w = some (.ok (.lst [.int t1, .int t2, .int t3]) w) := by
    intro x y z
    unfold three
    simp only [fnF, List.length_cons, List.length_nil, Nat.reduceAdd, Nat.reduceSub, if_true, start_eq, List.map_cons, List.map_nil, List.cons_append, List.nil_append, List.append_nil, List.replicate, scons, snil_eq, spass_eq, sasg, sret, sexpr, site, srais, saug, spar2, spar3, xbui, xbin, xcmp, xneg, xidx, xtup, xlst, xcall, xisi, xnot, xand, xor, xife, xtru, xcst, tand, tor, tnot, tyes, acons, anil, xvar, slot_z, slot_s, mslot_z, mslot_s, opt_some, bnd_ok, bu_gcd, Int.natAbs_natCast, setT, List.set_cons_succ, List.set_cons_zero, Option.map_some, small0, small1, small2, small3, idx_tup, idx_lst, at2_0, at2_1, at1_0, bo_add, bo_sub, co_lt, co_le, co_gt, co_ge, co_isN, ne_int, eqc_int, tru_bl, tru_int, tru_non, tru_lst, bu_int, bu_abs, bu_lenT, bu_lenL, bu_tupT, bu_tupL, isi_lt, isi_ll, isi_ii, isi_ib, isi_bi, isi_bb, decide_true, decide_false, Bool.not_true, Bool.not_false, Bool.false_eq_true, if_false, D.isNon, negF, xcomp, srcSeq, seq_t, compL, wipeE, n1, n2, n3, noEx]
  have q1 := turn_eq w hc hd he hf
  have q2 := turn_eq w ha hb hc hd
  have q3 := turn_eq w ha hb he hf
  have m1 := mul_ok (sz_turn hc hd he hf) v1 (by omega)
  have m2 := mul_ok (sz_turn ha hb hc hd) v3 (by omega)
  have m3 := mul_ok (sz_turn ha hb he hf) v2 (by omega)
  simp only [fnF, List.length_cons, List.length_nil, Nat.reduceAdd, Nat.reduceSub, if_true, start_eq, List.map_cons, List.map_nil, List.cons_append, List.nil_append, List.append_nil, List.replicate, scons, snil_eq, spass_eq, sasg, sret, sexpr, site, srais, saug, spar2, spar3, xbui, xbin, xcmp, xneg, xidx, xtup, xlst, xcall, xisi, xnot, xand, xor, xife, xtru, xcst, tand, tor, tnot, tyes, acons, anil, xvar, slot_z, slot_s, mslot_z, mslot_s, opt_some, bnd_ok, bu_gcd, Int.natAbs_natCast, setT, List.set_cons_succ, List.set_cons_zero, Option.map_some, small0, small1, small2, small3, idx_tup, idx_lst, at2_0, at2_1, at1_0, bo_add, bo_sub, co_lt, co_le, co_gt, co_ge, co_isN, ne_int, eqc_int, tru_bl, tru_int, tru_non, tru_lst, bu_int, bu_abs, bu_lenT, bu_lenL, bu_tupT, bu_tupL, isi_lt, isi_ll, isi_ii, isi_ib, isi_bi, isi_bb, decide_true, decide_false, Bool.not_true, Bool.not_false, Bool.false_eq_true, if_false, D.isNon, negF, bulgeF, bulgeB, sunp, setTs, c1, c2, q1, q2, q3, bo_mul m1, bo_mul m2, bo_mul m3]
end Rh
set_option Elab.async false
set_option linter.all false
set_option maxRecDepth 100000
set_option maxHeartbeats 4000000
/-! Rh: the derivations, printed by gen.py. -/
namespace Rh
open PySem L2 PySem.Spec PyProof.Rows
section
variable {P : Program} {w : World} {K : PySem.W.Frag} {mg : Str → Option Value} {base : Heap} {T : Tx}
theorem bd_is_integer (h : Hd P w K mg base T) (cdv : Value) (A : Around) (outer : List Env) (s : Shared) (H : Hp) (E : XK) (f : Addr) : Room 0 (A.deeper (envOfC "is_integer" (defScope (top 13)) s.heap.objs.size f cdv)) → PSs (cxOf (L2.CX P w) P w K mg base ["value"] "is_integer" (defScope (top 13)) f cdv A outer s H E) (defBody (top 13)) (tS K T E is_integerB) := fun hr => by
  have nd : (["value"] : List Str).Nodup := by decide +kernel
  exact s_cons (s_ret (x_and (x_isiInt h.il h.isinstance h.int (x_var 0)) (x_one (x_not (x_isiBool h.il h.isinstance h.bool (x_var 0)))))) (s_nil)
theorem fd_is_integer (h : Hd P w K mg base T) : Fd P w K mg base T 1 "is_integer" 1 is_integerF := fd_at (N := ["value"]) (ps := ["value"]) h.f_is_integer ⟨rfl, rfl, rfl, by decide +kernel, rfl, by decide +kernel, by decide +kernel⟩ rfl rfl (fun _ _ _ _ _ _ us hl => match us, hl with | [_], _ => rfl) fun cdv A outer s H E f hr => bd_is_integer h cdv A outer s H E f hr
theorem bd_is_within (h : Hd P w K mg base T) (cdv : Value) (A : Around) (outer : List Env) (s : Shared) (H : Hp) (E : XK) (f : Addr) : Room 1 (A.deeper (envOfC "is_within" (defScope (top 14)) s.heap.objs.size f cdv)) → PSs (cxOf (L2.CX P w) P w K mg base ["value", "least", "most"] "is_within" (defScope (top 14)) f cdv A outer s H E) (defBody (top 14)) (tS K T E is_withinB) := fun hr => by
  have nd : (["value", "least", "most"] : List Str).Nodup := by decide +kernel
  exact s_cons (s_if (t_not (t_tru (x_call (fd_is_integer h) hr pass_body (a_cons (x_var 0) (a_nil))))) (s_cons (s_ret (x_bl)) (s_nil)) (s_nil)) (s_cons (s_ret (x_and (x_or (x_cmp (c_isN) (x_var 1) (x_non)) (x_one (x_cmp (c_ge) (x_var 0) (x_var 1)))) (x_one (x_or (x_cmp (c_isN) (x_var 2) (x_non)) (x_one (x_cmp (c_le) (x_var 0) (x_var 2))))))) (s_nil))
theorem fd_is_within (h : Hd P w K mg base T) : Fd P w K mg base T 2 "is_within" 3 is_withinF := fd_at (N := ["value", "least", "most"]) (ps := ["value", "least", "most"]) h.f_is_within ⟨rfl, rfl, rfl, by decide +kernel, rfl, by decide +kernel, by decide +kernel⟩ rfl rfl (fun _ _ _ _ _ _ us hl => match us, hl with | [_, _, _], _ => rfl) fun cdv A outer s H E f hr => bd_is_within h cdv A outer s H E f hr
theorem bd_is_listed (h : Hd P w K mg base T) (cdv : Value) (A : Around) (outer : List Env) (s : Shared) (H : Hp) (E : XK) (f : Addr) : Room 0 (A.deeper (envOfC "is_listed" (defScope (top 15)) s.heap.objs.size f cdv)) → PSs (cxOf (L2.CX P w) P w K mg base ["value"] "is_listed" (defScope (top 15)) f cdv A outer s H E) (defBody (top 15)) (tS K T E is_listedB) := fun hr => by
  have nd : (["value"] : List Str).Nodup := by decide +kernel
  exact s_cons (s_ret (x_isiLT h.il h.isinstance h.list h.tuple (x_var 0))) (s_nil)
theorem fd_is_listed (h : Hd P w K mg base T) : Fd P w K mg base T 1 "is_listed" 1 is_listedF := fd_at (N := ["value"]) (ps := ["value"]) h.f_is_listed ⟨rfl, rfl, rfl, by decide +kernel, rfl, by decide +kernel, by decide +kernel⟩ rfl rfl (fun _ _ _ _ _ _ us hl => match us, hl with | [_], _ => rfl) fun cdv A outer s H E f hr => bd_is_listed h cdv A outer s H E f hr
theorem bd_is_row (h : Hd P w K mg base T) (cdv : Value) (A : Around) (outer : List Env) (s : Shared) (H : Hp) (E : XK) (f : Addr) : Room 2 (A.deeper (envOfC "is_row" (defScope (top 16)) s.heap.objs.size f cdv)) → PSs (cxOf (L2.CX P w) P w K mg base ["value", "many", "least", "most", "each"] "is_row" (defScope (top 16)) f cdv A outer s H E) (defBody (top 16)) (tS K T E is_rowB) := fun hr => by
  have nd : (["value", "many", "least", "most", "each"] : List Str).Nodup := by decide +kernel
  exact s_cons (s_ret (x_and (x_call (fd_is_listed h) hr pass_body (a_cons (x_var 0) (a_nil))) (x_and (x_cmp (c_eq (Room.units hr)) (x_len h.len (x_var 0)) (x_var 1)) (x_one (x_all rfl h.all (x_comp (own := [("each", 4)]) (t := (.nm 4)) rfl nd (i_seq (x_var 0)) (blkOk_by (by kernel_rfl)) (by decide) (fun _ _ _ _ _ => (pg_name (i := 4) nd rfl (by first | exact Or.inl rfl | exact Or.inr rfl))) (fun _ _ _ _ _ => t_yes) (fun _ _ _ _ _ => x_call (fd_is_within h) hr passL (a_cons (x_var 4) (a_cons (x_var 2) (a_cons (x_var 3) (a_nil))))))))))) (s_nil)
theorem fd_is_row (h : Hd P w K mg base T) : FdD P w K mg base T 3 "is_row" 4 2 is_rowF := fdD_of (N := ["value", "many", "least", "most", "each"]) (ps := ["value", "many", "least", "most"]) h.f_is_row (by decide) ⟨rfl, rfl, rfl, by decide +kernel, rfl, by decide +kernel, by decide +kernel⟩ rfl rfl rfl (fun _ _ _ _ _ _ _ us its l1 l2 => match us, its, l1, l2 with | [_, _], [_, _], _, _ => ⟨_, rfl, rfl⟩) fun cdv A outer s H E f hr => bd_is_row h cdv A outer s H E f hr
theorem bd_need_number (h : Hd P w K mg base T) (cdv : Value) (A : Around) (outer : List Env) (s : Shared) (H : Hp) (E : XK) (f : Addr) : Room 2 (A.deeper (envOfC "need_number" (defScope (top 17)) s.heap.objs.size f cdv)) → PSs (cxOf (L2.CX P w) P w K mg base ["value", "part", "least", "most"] "need_number" (defScope (top 17)) f cdv A outer s H E) (defBody (top 17)) (tS K T E need_numberB) := fun hr => by
  have nd : (["value", "part", "least", "most"] : List Str).Nodup := by decide +kernel
  exact s_cons (s_if (t_not (t_tru (x_call (fd_is_within h) hr pass_body (a_cons (x_var 0) (a_cons (x_var 2) (a_cons (x_var 3) (a_nil))))))) (s_cons (h.err0.elim fun _ er => s_raise (c := 0) rfl er h.ef0 hr takes_body (x_var 1)) (s_nil)) (s_nil)) (s_nil)
theorem fd_need_number (h : Hd P w K mg base T) : Fd P w K mg base T 3 "need_number" 4 need_numberF := fd_at (N := ["value", "part", "least", "most"]) (ps := ["value", "part", "least", "most"]) h.f_need_number ⟨rfl, rfl, rfl, by decide +kernel, rfl, by decide +kernel, by decide +kernel⟩ rfl rfl (fun _ _ _ _ _ _ us hl => match us, hl with | [_, _, _, _], _ => rfl) fun cdv A outer s H E f hr => bd_need_number h cdv A outer s H E f hr
theorem bd_need_value (h : Hd P w K mg base T) (cdv : Value) (A : Around) (outer : List Env) (s : Shared) (H : Hp) (E : XK) (f : Addr) : Room 1 (A.deeper (envOfC "need_value" (defScope (top 18)) s.heap.objs.size f cdv)) → PSs (cxOf (L2.CX P w) P w K mg base ["is_right", "part"] "need_value" (defScope (top 18)) f cdv A outer s H E) (defBody (top 18)) (tS K T E need_valueB) := fun hr => by
  have nd : (["is_right", "part"] : List Str).Nodup := by decide +kernel
  exact s_cons (s_if (t_not (t_tru (x_var 0))) (s_cons (h.err1.elim fun _ er => s_raise (c := 1) rfl er h.ef1 hr takes_body (x_var 1)) (s_nil)) (s_nil)) (s_nil)
theorem fd_need_value (h : Hd P w K mg base T) : Fd P w K mg base T 2 "need_value" 2 need_valueF := fd_at (N := ["is_right", "part"]) (ps := ["is_right", "part"]) h.f_need_value ⟨rfl, rfl, rfl, by decide +kernel, rfl, by decide +kernel, by decide +kernel⟩ rfl rfl (fun _ _ _ _ _ _ us hl => match us, hl with | [_, _], _ => rfl) fun cdv A outer s H E f hr => bd_need_value h cdv A outer s H E f hr
theorem bd_is_fraction (h : Hd P w K mg base T) (cdv : Value) (A : Around) (outer : List Env) (s : Shared) (H : Hp) (E : XK) (f : Addr) : Room 2 (A.deeper (envOfC "is_fraction" (defScope (top 23)) s.heap.objs.size f cdv)) → PSs (cxOf (L2.CX P w) P w K mg base ["value"] "is_fraction" (defScope (top 23)) f cdv A outer s H E) (defBody (top 23)) (tS K T E is_fractionB) := fun hr => by
  have nd : (["value"] : List Str).Nodup := by decide +kernel
  exact s_cons (s_if ((w_or (t_not (t_tru (x_call (fd_is_listed h) hr pass_body (a_cons (x_var 0) (a_nil))))) (w_or1 (t_cmp (c_ne (Room.units hr)) (x_len h.len (x_var 0)) (x_int)))).pt) (s_cons (s_ret (x_bl)) (s_nil)) (s_nil)) (s_cons (s_if ((w_or (t_not (t_tru (x_call (fd_is_within h) hr pass_body (a_cons (x_idx (x_var 0) (x_int)) (a_cons (x_non) (a_cons (x_non) (a_nil))))))) (w_or1 (t_not (t_tru (x_call (fd_is_within h) hr pass_body (a_cons (x_idx (x_var 0) (x_int)) (a_cons (x_int) (a_cons (x_non) (a_nil))))))))).pt) (s_cons (s_ret (x_bl)) (s_nil)) (s_nil)) (s_cons (s_ret (x_cmp (c_eq (Room.units hr)) (x_gcd h.gcd (x_idx (x_var 0) (x_int)) (x_idx (x_var 0) (x_int))) (x_int))) (s_nil)))
theorem fd_is_fraction (h : Hd P w K mg base T) : Fd P w K mg base T 3 "is_fraction" 1 is_fractionF := fd_at (N := ["value"]) (ps := ["value"]) h.f_is_fraction ⟨rfl, rfl, rfl, by decide +kernel, rfl, by decide +kernel, by decide +kernel⟩ rfl rfl (fun _ _ _ _ _ _ us hl => match us, hl with | [_], _ => rfl) fun cdv A outer s H E f hr => bd_is_fraction h cdv A outer s H E f hr
theorem bd_are_fractions (h : Hd P w K mg base T) (cdv : Value) (A : Around) (outer : List Env) (s : Shared) (H : Hp) (E : XK) (f : Addr) : Room 3 (A.deeper (envOfC "are_fractions" (defScope (top 24)) s.heap.objs.size f cdv)) → PSs (cxOf (L2.CX P w) P w K mg base ["value", "many", "each"] "are_fractions" (defScope (top 24)) f cdv A outer s H E) (defBody (top 24)) (tS K T E are_fractionsB) := fun hr => by
  have nd : (["value", "many", "each"] : List Str).Nodup := by decide +kernel
  exact s_cons (s_ret (x_and (x_call (fd_is_listed h) hr pass_body (a_cons (x_var 0) (a_nil))) (x_and (x_cmp (c_eq (Room.units hr)) (x_len h.len (x_var 0)) (x_var 1)) (x_one (x_all rfl h.all (x_comp (own := [("each", 2)]) (t := (.nm 2)) rfl nd (i_seq (x_var 0)) (blkOk_by (by kernel_rfl)) (by decide) (fun _ _ _ _ _ => (pg_name (i := 2) nd rfl (by first | exact Or.inl rfl | exact Or.inr rfl))) (fun _ _ _ _ _ => t_yes) (fun _ _ _ _ _ => x_call (fd_is_fraction h) hr passL (a_cons (x_var 2) (a_nil))))))))) (s_nil)
theorem fd_are_fractions (h : Hd P w K mg base T) : Fd P w K mg base T 4 "are_fractions" 2 are_fractionsF := fd_at (N := ["value", "many", "each"]) (ps := ["value", "many"]) h.f_are_fractions ⟨rfl, rfl, rfl, by decide +kernel, rfl, by decide +kernel, by decide +kernel⟩ rfl rfl (fun _ _ _ _ _ _ us hl => match us, hl with | [_, _], _ => rfl) fun cdv A outer s H E f hr => bd_are_fractions h cdv A outer s H E f hr
theorem bd_lowest_of (h : Hd P w K mg base T) (cdv : Value) (A : Around) (outer : List Env) (s : Shared) (H : Hp) (E : XK) (f : Addr) : Room 0 (A.deeper (envOfC "lowest_of" (defScope (top 25)) s.heap.objs.size f cdv)) → PSs (cxOf (L2.CX P w) P w K mg base ["top", "bottom", "by"] "lowest_of" (defScope (top 25)) f cdv A outer s H E) (defBody (top 25)) (tS K T E lowest_ofB) := fun hr => by
  have nd : (["top", "bottom", "by"] : List Str).Nodup := by decide +kernel
  exact s_cons (s_set 2 nd (x_gcd h.gcd (x_var 0) (x_var 1))) (s_cons (s_ret (x_tup (a_cons (x_fdiv (x_var 0) (x_var 2)) (a_cons (x_fdiv (x_var 1) (x_var 2)) (a_nil))))) (s_nil))
theorem fd_lowest_of (h : Hd P w K mg base T) : Fd P w K mg base T 1 "lowest_of" 2 lowest_ofF := fd_at (N := ["top", "bottom", "by"]) (ps := ["top", "bottom"]) h.f_lowest_of ⟨rfl, rfl, rfl, by decide +kernel, rfl, by decide +kernel, by decide +kernel⟩ rfl rfl (fun _ _ _ _ _ _ us hl => match us, hl with | [_, _], _ => rfl) fun cdv A outer s H E f hr => bd_lowest_of h cdv A outer s H E f hr
theorem bd_plus (h : Hd P w K mg base T) (cdv : Value) (A : Around) (outer : List Env) (s : Shared) (H : Hp) (E : XK) (f : Addr) : Room 1 (A.deeper (envOfC "plus" (defScope (top 26)) s.heap.objs.size f cdv)) → PSs (cxOf (L2.CX P w) P w K mg base ["one", "other"] "plus" (defScope (top 26)) f cdv A outer s H E) (defBody (top 26)) (tS K T E plusB) := fun hr => by
  have nd : (["one", "other"] : List Str).Nodup := by decide +kernel
  exact s_cons (s_ret (x_call (fd_lowest_of h) hr pass_body (a_cons (x_add (x_mul (x_idx (x_var 0) (x_int)) (x_idx (x_var 1) (x_int))) (x_mul (x_idx (x_var 1) (x_int)) (x_idx (x_var 0) (x_int)))) (a_cons (x_mul (x_idx (x_var 0) (x_int)) (x_idx (x_var 1) (x_int))) (a_nil))))) (s_nil)
theorem fd_plus (h : Hd P w K mg base T) : Fd P w K mg base T 2 "plus" 2 plusF := fd_at (N := ["one", "other"]) (ps := ["one", "other"]) h.f_plus ⟨rfl, rfl, rfl, by decide +kernel, rfl, by decide +kernel, by decide +kernel⟩ rfl rfl (fun _ _ _ _ _ _ us hl => match us, hl with | [_, _], _ => rfl) fun cdv A outer s H E f hr => bd_plus h cdv A outer s H E f hr
theorem bd_times (h : Hd P w K mg base T) (cdv : Value) (A : Around) (outer : List Env) (s : Shared) (H : Hp) (E : XK) (f : Addr) : Room 1 (A.deeper (envOfC "times" (defScope (top 27)) s.heap.objs.size f cdv)) → PSs (cxOf (L2.CX P w) P w K mg base ["one", "factor"] "times" (defScope (top 27)) f cdv A outer s H E) (defBody (top 27)) (tS K T E timesB) := fun hr => by
  have nd : (["one", "factor"] : List Str).Nodup := by decide +kernel
  exact s_cons (s_ret (x_call (fd_lowest_of h) hr pass_body (a_cons (x_mul (x_idx (x_var 0) (x_int)) (x_var 1)) (a_cons (x_idx (x_var 0) (x_int)) (a_nil))))) (s_nil)
theorem fd_times (h : Hd P w K mg base T) : Fd P w K mg base T 2 "times" 2 timesF := fd_at (N := ["one", "factor"]) (ps := ["one", "factor"]) h.f_times ⟨rfl, rfl, rfl, by decide +kernel, rfl, by decide +kernel, by decide +kernel⟩ rfl rfl (fun _ _ _ _ _ _ us hl => match us, hl with | [_, _], _ => rfl) fun cdv A outer s H E f hr => bd_times h cdv A outer s H E f hr
theorem bd_shared_bottom (h : Hd P w K mg base T) (cdv : Value) (A : Around) (outer : List Env) (s : Shared) (H : Hp) (E : XK) (f : Addr) : Room 0 (A.deeper (envOfC "shared_bottom" (defScope (top 28)) s.heap.objs.size f cdv)) → PSs (cxOf (L2.CX P w) P w K mg base ["some", "found", "each"] "shared_bottom" (defScope (top 28)) f cdv A outer s H E) (defBody (top 28)) (tS K T E shared_bottomB) := fun hr => by
  have nd : (["some", "found", "each"] : List Str).Nodup := by decide +kernel
  exact s_cons (s_set 1 nd (x_int)) (s_cons (s_for (t := (.nm 2)) own_body rfl (i_seq (x_var 0)) (pg_name (i := 2) nd rfl (by first | exact Or.inl rfl | exact Or.inr rfl)) (s_cons (s_set 1 nd (x_fdiv (x_mul (x_var 1) (x_idx (x_var 2) (x_int))) (x_gcd h.gcd (x_var 1) (x_idx (x_var 2) (x_int))))) (s_nil))) (s_cons (s_ret (x_var 1)) (s_nil)))
theorem fd_shared_bottom (h : Hd P w K mg base T) : Fd P w K mg base T 1 "shared_bottom" 1 shared_bottomF := fd_at (N := ["some", "found", "each"]) (ps := ["some"]) h.f_shared_bottom ⟨rfl, rfl, rfl, by decide +kernel, rfl, by decide +kernel, by decide +kernel⟩ rfl rfl (fun _ _ _ _ _ _ us hl => match us, hl with | [_], _ => rfl) fun cdv A outer s H E f hr => bd_shared_bottom h cdv A outer s H E f hr
theorem bd_over_it (h : Hd P w K mg base T) (cdv : Value) (A : Around) (outer : List Env) (s : Shared) (H : Hp) (E : XK) (f : Addr) : Room 0 (A.deeper (envOfC "over_it" (defScope (top 29)) s.heap.objs.size f cdv)) → PSs (cxOf (L2.CX P w) P w K mg base ["fraction", "bottom"] "over_it" (defScope (top 29)) f cdv A outer s H E) (defBody (top 29)) (tS K T E over_itB) := fun hr => by
  have nd : (["fraction", "bottom"] : List Str).Nodup := by decide +kernel
  exact s_cons (s_ret (x_mul (x_idx (x_var 0) (x_int)) (x_fdiv (x_var 1) (x_idx (x_var 0) (x_int))))) (s_nil)
theorem fd_over_it (h : Hd P w K mg base T) : Fd P w K mg base T 1 "over_it" 2 over_itF := fd_at (N := ["fraction", "bottom"]) (ps := ["fraction", "bottom"]) h.f_over_it ⟨rfl, rfl, rfl, by decide +kernel, rfl, by decide +kernel, by decide +kernel⟩ rfl rfl (fun _ _ _ _ _ _ us hl => match us, hl with | [_, _], _ => rfl) fun cdv A outer s H E f hr => bd_over_it h cdv A outer s H E f hr
theorem bd_turn_of (h : Hd P w K mg base T) (cdv : Value) (A : Around) (outer : List Env) (s : Shared) (H : Hp) (E : XK) (f : Addr) : Room 0 (A.deeper (envOfC "turn_of" (defScope (top 32)) s.heap.objs.size f cdv)) → PSs (cxOf (L2.CX P w) P w K mg base ["one", "other"] "turn_of" (defScope (top 32)) f cdv A outer s H E) (defBody (top 32)) (tS K T E turn_ofB) := fun hr => by
  have nd : (["one", "other"] : List Str).Nodup := by decide +kernel
  exact s_cons (s_ret (x_sub (x_mul (x_idx (x_var 0) (x_int)) (x_idx (x_var 1) (x_int))) (x_mul (x_idx (x_var 0) (x_int)) (x_idx (x_var 1) (x_int))))) (s_nil)
theorem fd_turn_of (h : Hd P w K mg base T) : Fd P w K mg base T 1 "turn_of" 2 turn_ofF := fd_at (N := ["one", "other"]) (ps := ["one", "other"]) h.f_turn_of ⟨rfl, rfl, rfl, by decide +kernel, rfl, by decide +kernel, by decide +kernel⟩ rfl rfl (fun _ _ _ _ _ _ us hl => match us, hl with | [_, _], _ => rfl) fun cdv A outer s H E f hr => bd_turn_of h cdv A outer s H E f hr
theorem bd_quarter_of (h : Hd P w K mg base T) (cdv : Value) (A : Around) (outer : List Env) (s : Shared) (H : Hp) (E : XK) (f : Addr) : Room 0 (A.deeper (envOfC "quarter_of" (defScope (top 33)) s.heap.objs.size f cdv)) → PSs (cxOf (L2.CX P w) P w K mg base ["ray"] "quarter_of" (defScope (top 33)) f cdv A outer s H E) (defBody (top 33)) (tS K T E quarter_ofB) := fun hr => by
  have nd : (["ray"] : List Str).Nodup := by decide +kernel
  exact s_cons (s_if ((w_and (t_cmp (c_ge) (x_idx (x_var 0) (x_int)) (x_int)) (w_and1 (t_cmp (c_gt) (x_idx (x_var 0) (x_int)) (x_int)))).pt) (s_cons (s_ret (x_int)) (s_nil)) (s_nil)) (s_cons (s_if ((w_and (t_cmp (c_le) (x_idx (x_var 0) (x_int)) (x_int)) (w_and1 (t_cmp (c_gt) (x_idx (x_var 0) (x_int)) (x_int)))).pt) (s_cons (s_ret (x_int)) (s_nil)) (s_nil)) (s_cons (s_ret (x_ife ((w_and (t_cmp (c_lt) (x_idx (x_var 0) (x_int)) (x_int)) (w_and1 (t_cmp (c_le) (x_idx (x_var 0) (x_int)) (x_int)))).pt) (x_int) (x_int))) (s_nil)))
theorem fd_quarter_of (h : Hd P w K mg base T) : Fd P w K mg base T 1 "quarter_of" 1 quarter_ofF := fd_at (N := ["ray"]) (ps := ["ray"]) h.f_quarter_of ⟨rfl, rfl, rfl, by decide +kernel, rfl, by decide +kernel, by decide +kernel⟩ rfl rfl (fun _ _ _ _ _ _ us hl => match us, hl with | [_], _ => rfl) fun cdv A outer s H E f hr => bd_quarter_of h cdv A outer s H E f hr
theorem bd_is_ahead (h : Hd P w K mg base T) (cdv : Value) (A : Around) (outer : List Env) (s : Shared) (H : Hp) (E : XK) (f : Addr) : Room 1 (A.deeper (envOfC "is_ahead" (defScope (top 35)) s.heap.objs.size f cdv)) → PSs (cxOf (L2.CX P w) P w K mg base ["one", "other"] "is_ahead" (defScope (top 35)) f cdv A outer s H E) (defBody (top 35)) (tS K T E is_aheadB) := fun hr => by
  have nd : (["one", "other"] : List Str).Nodup := by decide +kernel
  exact s_cons (s_if (t_cmp (c_ne (Room.units hr)) (x_call (fd_quarter_of h) hr pass_body (a_cons (x_var 0) (a_nil))) (x_call (fd_quarter_of h) hr pass_body (a_cons (x_var 1) (a_nil)))) (s_cons (s_ret (x_cmp (c_lt) (x_call (fd_quarter_of h) hr pass_body (a_cons (x_var 0) (a_nil))) (x_call (fd_quarter_of h) hr pass_body (a_cons (x_var 1) (a_nil))))) (s_nil)) (s_nil)) (s_cons (s_ret (x_cmp (c_gt) (x_call (fd_turn_of h) hr pass_body (a_cons (x_var 0) (a_cons (x_var 1) (a_nil)))) (x_int))) (s_nil))
theorem fd_is_ahead (h : Hd P w K mg base T) : Fd P w K mg base T 2 "is_ahead" 2 is_aheadF := fd_at (N := ["one", "other"]) (ps := ["one", "other"]) h.f_is_ahead ⟨rfl, rfl, rfl, by decide +kernel, rfl, by decide +kernel, by decide +kernel⟩ rfl rfl (fun _ _ _ _ _ _ us hl => match us, hl with | [_, _], _ => rfl) fun cdv A outer s H E f hr => bd_is_ahead h cdv A outer s H E f hr
theorem bd_by_angle (h : Hd P w K mg base T) (cdv : Value) (A : Around) (outer : List Env) (s : Shared) (H : Hp) (E : XK) (f : Addr) : Room 2 (A.deeper (envOfC "by_angle" (defScope (top 34)) s.heap.objs.size f cdv)) → PSs (cxOf (L2.CX P w) P w K mg base ["rays", "found", "ray", "at"] "by_angle" (defScope (top 34)) f cdv A outer s H E) (defBody (top 34)) (tS K T E by_angleB) := fun hr => by
  have nd : (["rays", "found", "ray", "at"] : List Str).Nodup := by decide +kernel
  exact s_cons (s_new 1 nd) (s_cons (s_for (t := (.nm 2)) own_body rfl (i_seq (x_var 0)) (pg_name (i := 2) nd rfl (by first | exact Or.inl rfl | exact Or.inr rfl)) (s_cons (s_set 3 nd (x_int)) (s_cons (s_while (n := 1000) own_body ((w_and (t_cmp (c_lt) (x_var 3) (x_lenM 1 h.len)) (w_and1 (t_tru (x_call (fd_is_ahead h) hr pass_body (a_cons (x_idxM 1 (x_var 3)) (a_cons (x_var 2) (a_nil))))))).pt) (s_cons (s_aug 3 nd (x_int)) (s_nil))) (s_cons (s_ins 1 (x_var 3) (x_var 2)) (s_nil))))) (s_cons (s_ret (x_tupM 1 h.tuple)) (s_nil)))
theorem fd_by_angle (h : Hd P w K mg base T) : Fd P w K mg base T 3 "by_angle" 1 by_angleF := fd_at (N := ["rays", "found", "ray", "at"]) (ps := ["rays"]) h.f_by_angle ⟨rfl, rfl, rfl, by decide +kernel, rfl, by decide +kernel, by decide +kernel⟩ rfl rfl (fun _ _ _ _ _ _ us hl => match us, hl with | [_], _ => rfl) fun cdv A outer s H E f hr => bd_by_angle h cdv A outer s H E f hr
theorem bd_neighbours (h : Hd P w K mg base T) (cdv : Value) (A : Around) (outer : List Env) (s : Shared) (H : Hp) (E : XK) (f : Addr) : Room 0 (A.deeper (envOfC "neighbours" (defScope (top 36)) s.heap.objs.size f cdv)) → PSs (cxOf (L2.CX P w) P w K mg base ["rays", "at", "ray"] "neighbours" (defScope (top 36)) f cdv A outer s H E) (defBody (top 36)) (tS K T E neighboursB) := fun hr => by
  have nd : (["rays", "at", "ray"] : List Str).Nodup := by decide +kernel
  exact s_cons (s_ret (x_comp (own := [("at", 1), ("ray", 2)]) (t := (.tp [1, 2])) rfl nd (i_enum h.enumerate (x_var 0)) (blkOk_by (by kernel_rfl)) (by decide) (fun _ _ _ _ _ => (pg_tup rfl (pgs_cons (pg_name (i := 1) nd rfl (by first | exact Or.inl rfl | exact Or.inr rfl)) (pgs_cons (pg_name (i := 2) nd rfl (by first | exact Or.inl rfl | exact Or.inr rfl)) pgs_nil)))) (fun _ _ _ _ _ => t_yes) (fun _ _ _ _ _ => x_tup (a_cons (x_var 2) (a_cons (x_idx (x_var 0) (x_mod (x_add (x_var 1) (x_int)) (x_len h.len (x_var 0)))) (a_nil)))))) (s_nil)
theorem fd_neighbours (h : Hd P w K mg base T) : Fd P w K mg base T 1 "neighbours" 1 neighboursF := fd_at (N := ["rays", "at", "ray"]) (ps := ["rays"]) h.f_neighbours ⟨rfl, rfl, rfl, by decide +kernel, rfl, by decide +kernel, by decide +kernel⟩ rfl rfl (fun _ _ _ _ _ _ us hl => match us, hl with | [_], _ => rfl) fun cdv A outer s H E f hr => bd_neighbours h cdv A outer s H E f hr
theorem bd_is_lowest (h : Hd P w K mg base T) (cdv : Value) (A : Around) (outer : List Env) (s : Shared) (H : Hp) (E : XK) (f : Addr) : Room 0 (A.deeper (envOfC "is_lowest" (defScope (top 37)) s.heap.objs.size f cdv)) → PSs (cxOf (L2.CX P w) P w K mg base ["ray", "found", "each"] "is_lowest" (defScope (top 37)) f cdv A outer s H E) (defBody (top 37)) (tS K T E is_lowestB) := fun hr => by
  have nd : (["ray", "found", "each"] : List Str).Nodup := by decide +kernel
  exact s_cons (s_set 1 nd (x_int)) (s_cons (s_for (t := (.nm 2)) own_body rfl (i_seq (x_var 0)) (pg_name (i := 2) nd rfl (by first | exact Or.inl rfl | exact Or.inr rfl)) (s_cons (s_set 1 nd (x_gcd h.gcd (x_var 1) (x_var 2))) (s_nil))) (s_cons (s_ret (x_cmp (c_eq (Room.units hr)) (x_var 1) (x_int))) (s_nil)))
theorem fd_is_lowest (h : Hd P w K mg base T) : Fd P w K mg base T 1 "is_lowest" 1 is_lowestF := fd_at (N := ["ray", "found", "each"]) (ps := ["ray"]) h.f_is_lowest ⟨rfl, rfl, rfl, by decide +kernel, rfl, by decide +kernel, by decide +kernel⟩ rfl rfl (fun _ _ _ _ _ _ us hl => match us, hl with | [_], _ => rfl) fun cdv A outer s H E f hr => bd_is_lowest h cdv A outer s H E f hr
theorem bd_are_rays (h : Hd P w K mg base T) (cdv : Value) (A : Around) (outer : List Env) (s : Shared) (H : Hp) (E : XK) (f : Addr) : Room 9 (A.deeper (envOfC "are_rays" (defScope (top 38)) s.heap.objs.size f cdv)) → PSs (cxOf (L2.CX P w) P w K mg base ["value", "stores", "ray", "rays", "one", "other"] "are_rays" (defScope (top 38)) f cdv A outer s H E) (defBody (top 38)) (tS K T E are_raysB) := fun hr => by
  have nd : (["value", "stores", "ray", "rays", "one", "other"] : List Str).Nodup := by decide +kernel
  exact s_cons (s_expr (x_call (fd_need_number h) hr pass_body (a_cons (x_var 1) (a_cons (x_str) (a_cons (x_int) (a_cons (x_gint h.most) (a_nil))))))) (s_cons (s_if ((w_or (t_not (t_tru (x_call (fd_is_listed h) hr pass_body (a_cons (x_var 0) (a_nil))))) (w_or1 (t_not (t_tru (x_all rfl h.all (x_comp (own := [("ray", 2)]) (t := (.nm 2)) rfl nd (i_seq (x_var 0)) (blkOk_by (by kernel_rfl)) (by decide) (fun _ _ _ _ _ => (pg_name (i := 2) nd rfl (by first | exact Or.inl rfl | exact Or.inr rfl))) (fun _ _ _ _ _ => t_yes) (fun _ _ _ _ _ => x_and (x_callD (fd_is_row h) hr passL (a_cons (x_var 2) (a_cons (x_var 1) (a_nil)))) (x_one (x_call (fd_is_lowest h) hr passL (a_cons (x_var 2) (a_nil))))))))))).pt) (s_cons (s_ret (x_bl)) (s_nil)) (s_nil)) (s_cons (s_set 3 nd (x_call (fd_fixed h) hr pass_body (a_cons (x_var 0) (a_nil)))) (s_cons (s_if (t_cmp (c_eq (Room.units hr)) (x_var 1) (x_int)) (s_cons (s_ret (x_cmp (c_eq (Room.units hr)) (x_var 3) (x_tup (a_cons (x_tup (a_cons (x_neg (x_int)) (a_nil))) (a_cons (x_tup (a_cons (x_int) (a_nil))) (a_nil)))))) (s_nil)) (s_nil)) (s_cons (s_if ((w_or (t_cmp (c_lt) (x_len h.len (x_var 3)) (x_int)) (w_or (t_cmp (c_lt) (x_lenSet rfl (Room.units hr) h.len h.set (x_var 3)) (x_len h.len (x_var 3))) (w_or1 (t_cmp (c_ne (Room.units hr)) (x_var 3) (x_call (fd_by_angle h) hr pass_body (a_cons (x_var 3) (a_nil))))))).pt) (s_cons (s_ret (x_bl)) (s_nil)) (s_nil)) (s_cons (s_ret (x_all rfl h.all (x_comp (own := [("one", 4), ("other", 5)]) (t := (.tp [4, 5])) rfl nd (i_seq (x_call (fd_neighbours h) hr pass_body (a_cons (x_var 3) (a_nil)))) (blkOk_by (by kernel_rfl)) (by decide) (fun _ _ _ _ _ => (pg_tup rfl (pgs_cons (pg_name (i := 4) nd rfl (by first | exact Or.inl rfl | exact Or.inr rfl)) (pgs_cons (pg_name (i := 5) nd rfl (by first | exact Or.inl rfl | exact Or.inr rfl)) pgs_nil)))) (fun _ _ _ _ _ => t_yes) (fun _ _ _ _ _ => x_cmp (c_gt) (x_call (fd_turn_of h) hr passL (a_cons (x_var 4) (a_cons (x_var 5) (a_nil)))) (x_int))))) (s_nil))))))
theorem fd_are_rays (h : Hd P w K mg base T) : Fd P w K mg base T 10 "are_rays" 2 are_raysF := fd_at (N := ["value", "stores", "ray", "rays", "one", "other"]) (ps := ["value", "stores"]) h.f_are_rays ⟨rfl, rfl, rfl, by decide +kernel, rfl, by decide +kernel, by decide +kernel⟩ rfl rfl (fun _ _ _ _ _ _ us hl => match us, hl with | [_, _], _ => rfl) fun cdv A outer s H E f hr => bd_are_rays h cdv A outer s H E f hr
theorem bd_threes (h : Hd P w K mg base T) (cdv : Value) (A : Around) (outer : List Env) (s : Shared) (H : Hp) (E : XK) (f : Addr) : Room 0 (A.deeper (envOfC "threes" (defScope (top 41)) s.heap.objs.size f cdv)) → PSs (cxOf (L2.CX P w) P w K mg base ["rays", "many", "at"] "threes" (defScope (top 41)) f cdv A outer s H E) (defBody (top 41)) (tS K T E threesB) := fun hr => by
  have nd : (["rays", "many", "at"] : List Str).Nodup := by decide +kernel
  exact s_cons (s_set 1 nd (x_len h.len (x_var 0))) (s_cons (s_ret (x_comp (own := [("at", 2)]) (t := (.nm 2)) rfl nd (i_range h.range (x_var 1)) (blkOk_by (by kernel_rfl)) (by decide) (fun _ _ _ _ _ => (pg_name (i := 2) nd rfl (by first | exact Or.inl rfl | exact Or.inr rfl))) (fun _ _ _ _ _ => t_yes) (fun _ _ _ _ _ => x_tup (a_cons (x_var 2) (a_cons (x_mod (x_add (x_var 2) (x_int)) (x_var 1)) (a_cons (x_mod (x_add (x_var 2) (x_int)) (x_var 1)) (a_nil))))))) (s_nil))
theorem fd_threes (h : Hd P w K mg base T) : Fd P w K mg base T 1 "threes" 1 threesF := fd_at (N := ["rays", "many", "at"]) (ps := ["rays"]) h.f_threes ⟨rfl, rfl, rfl, by decide +kernel, rfl, by decide +kernel, by decide +kernel⟩ rfl rfl (fun _ _ _ _ _ _ us hl => match us, hl with | [_], _ => rfl) fun cdv A outer s H E f hr => bd_threes h cdv A outer s H E f hr
theorem bd_bulge (h : Hd P w K mg base T) (cdv : Value) (A : Around) (outer : List Env) (s : Shared) (H : Hp) (E : XK) (f : Addr) : Room 1 (A.deeper (envOfC "bulge" (defScope (top 42)) s.heap.objs.size f cdv)) → PSs (cxOf (L2.CX P w) P w K mg base ["rays", "three", "numbers", "one", "two", "last", "at", "first", "middle", "end"] "bulge" (defScope (top 42)) f cdv A outer s H E) (defBody (top 42)) (tS K T E bulgeB) := fun hr => by
  have nd : (["rays", "three", "numbers", "one", "two", "last", "at", "first", "middle", "end"] : List Str).Nodup := by decide +kernel
  exact s_cons (s_unp (l := [3, 4, 5]) (pg_lst rfl (pgs_cons (pg_name (i := 3) nd rfl (by first | exact Or.inl rfl | exact Or.inr rfl)) (pgs_cons (pg_name (i := 4) nd rfl (by first | exact Or.inl rfl | exact Or.inr rfl)) (pgs_cons (pg_name (i := 5) nd rfl (by first | exact Or.inl rfl | exact Or.inr rfl)) pgs_nil)))) (x_comp (own := [("at", 6)]) (t := (.nm 6)) rfl nd (i_seq (x_var 1)) (blkOk_by (by kernel_rfl)) (by decide) (fun _ _ _ _ _ => (pg_name (i := 6) nd rfl (by first | exact Or.inl rfl | exact Or.inr rfl))) (fun _ _ _ _ _ => t_yes) (fun _ _ _ _ _ => x_idx (x_var 0) (x_var 6)))) (s_cons (s_unp (l := [7, 8, 9]) (pg_lst rfl (pgs_cons (pg_name (i := 7) nd rfl (by first | exact Or.inl rfl | exact Or.inr rfl)) (pgs_cons (pg_name (i := 8) nd rfl (by first | exact Or.inl rfl | exact Or.inr rfl)) (pgs_cons (pg_name (i := 9) nd rfl (by first | exact Or.inl rfl | exact Or.inr rfl)) pgs_nil)))) (x_comp (own := [("at", 6)]) (t := (.nm 6)) rfl nd (i_seq (x_var 1)) (blkOk_by (by kernel_rfl)) (by decide) (fun _ _ _ _ _ => (pg_name (i := 6) nd rfl (by first | exact Or.inl rfl | exact Or.inr rfl))) (fun _ _ _ _ _ => t_yes) (fun _ _ _ _ _ => x_idx (x_var 2) (x_var 6)))) (s_cons (s_ret (x_sub (x_add (x_mul (x_call (fd_turn_of h) hr pass_body (a_cons (x_var 4) (a_cons (x_var 5) (a_nil)))) (x_var 7)) (x_mul (x_call (fd_turn_of h) hr pass_body (a_cons (x_var 3) (a_cons (x_var 4) (a_nil)))) (x_var 9))) (x_mul (x_call (fd_turn_of h) hr pass_body (a_cons (x_var 3) (a_cons (x_var 5) (a_nil)))) (x_var 8)))) (s_nil)))
theorem fd_bulge (h : Hd P w K mg base T) : Fd P w K mg base T 2 "bulge" 3 bulgeF := fd_at (N := ["rays", "three", "numbers", "one", "two", "last", "at", "first", "middle", "end"]) (ps := ["rays", "three", "numbers"]) h.f_bulge ⟨rfl, rfl, rfl, by decide +kernel, rfl, by decide +kernel, by decide +kernel⟩ rfl rfl (fun _ _ _ _ _ _ us hl => match us, hl with | [_, _, _], _ => rfl) fun cdv A outer s H E f hr => bd_bulge h cdv A outer s H E f hr
theorem bd_are_round (h : Hd P w K mg base T) (cdv : Value) (A : Around) (outer : List Env) (s : Shared) (H : Hp) (E : XK) (f : Addr) : Room 2 (A.deeper (envOfC "are_round" (defScope (top 43)) s.heap.objs.size f cdv)) → PSs (cxOf (L2.CX P w) P w K mg base ["rays", "numbers", "three"] "are_round" (defScope (top 43)) f cdv A outer s H E) (defBody (top 43)) (tS K T E are_roundB) := fun hr => by
  have nd : (["rays", "numbers", "three"] : List Str).Nodup := by decide +kernel
  exact s_cons (s_if (t_cmp (c_eq (Room.units hr)) (x_len h.len (x_idx (x_var 0) (x_int))) (x_int)) (s_cons (s_ret (x_cmp (c_ge) (x_sum rfl h.sum (x_var 1)) (x_int))) (s_nil)) (s_nil)) (s_cons (s_ret (x_all rfl h.all (x_comp (own := [("three", 2)]) (t := (.nm 2)) rfl nd (i_seq (x_call (fd_threes h) hr pass_body (a_cons (x_var 0) (a_nil)))) (blkOk_by (by kernel_rfl)) (by decide) (fun _ _ _ _ _ => (pg_name (i := 2) nd rfl (by first | exact Or.inl rfl | exact Or.inr rfl))) (fun _ _ _ _ _ => t_yes) (fun _ _ _ _ _ => x_cmp (c_ge) (x_call (fd_bulge h) hr passL (a_cons (x_var 0) (a_cons (x_var 2) (a_cons (x_var 1) (a_nil))))) (x_int))))) (s_nil))
theorem fd_are_round (h : Hd P w K mg base T) : Fd P w K mg base T 3 "are_round" 2 are_roundF := fd_at (N := ["rays", "numbers", "three"]) (ps := ["rays", "numbers"]) h.f_are_round ⟨rfl, rfl, rfl, by decide +kernel, rfl, by decide +kernel, by decide +kernel⟩ rfl rfl (fun _ _ _ _ _ _ us hl => match us, hl with | [_, _], _ => rfl) fun cdv A outer s H E f hr => bd_are_round h cdv A outer s H E f hr
theorem bd_are_all_round (h : Hd P w K mg base T) (cdv : Value) (A : Around) (outer : List Env) (s : Shared) (H : Hp) (E : XK) (f : Addr) : Room 3 (A.deeper (envOfC "are_all_round" (defScope (top 44)) s.heap.objs.size f cdv)) → PSs (cxOf (L2.CX P w) P w K mg base ["rays", "numbers", "bottom", "row", "each"] "are_all_round" (defScope (top 44)) f cdv A outer s H E) (defBody (top 44)) (tS K T E are_all_roundB) := fun hr => by
  have nd : (["rays", "numbers", "bottom", "row", "each"] : List Str).Nodup := by decide +kernel
  exact s_cons (s_set 2 nd (x_call (fd_shared_bottom h) hr pass_body (a_cons (x_flat (own := [("row", 3), ("each", 4)]) 3 4 rfl nd (i_seq (x_var 1)) (blkOk_by (by kernel_rfl)) (by decide) (by decide) (by decide) (fun _ _ _ _ _ => pg_name (i := 3) nd rfl (by first | exact Or.inl rfl | exact Or.inr rfl)) (fun _ _ _ _ _ => pe_var (i := 3) rfl (by first | exact Or.inl rfl | exact Or.inr (Or.inl rfl) | exact Or.inr (Or.inr rfl))) (fun _ _ _ _ _ => pg_name (i := 4) nd rfl (by first | exact Or.inl rfl | exact Or.inr rfl)) (fun _ _ _ _ _ => pe_var (i := 4) rfl (by first | exact Or.inl rfl | exact Or.inr (Or.inl rfl) | exact Or.inr (Or.inr rfl)))) (a_nil)))) (s_cons (s_ret (x_all rfl h.all (x_comp (own := [("row", 3)]) (t := (.nm 3)) rfl nd (i_seq (x_var 1)) (blkOk_by (by kernel_rfl)) (by decide) (fun _ _ _ _ _ => (pg_name (i := 3) nd rfl (by first | exact Or.inl rfl | exact Or.inr rfl))) (fun _ _ _ _ _ => t_yes) (fun _ _ _ _ _ => x_call (fd_are_round h) hr passL (a_cons (x_var 0) (a_cons (x_comp (own := [("each", 4)]) (t := (.nm 4)) rfl nd (i_seq (x_var 3)) (blkOk_by (by kernel_rfl)) (by decide) (fun _ _ _ _ _ => (pg_name (i := 4) nd rfl (by first | exact Or.inl rfl | exact Or.inr rfl))) (fun _ _ _ _ _ => t_yes) (fun _ _ _ _ _ => x_call (fd_over_it h) hr passL (a_cons (x_var 4) (a_cons (x_var 2) (a_nil))))) (a_nil))))))) (s_nil))
theorem fd_are_all_round (h : Hd P w K mg base T) : Fd P w K mg base T 4 "are_all_round" 2 are_all_roundF := fd_at (N := ["rays", "numbers", "bottom", "row", "each"]) (ps := ["rays", "numbers"]) h.f_are_all_round ⟨rfl, rfl, rfl, by decide +kernel, rfl, by decide +kernel, by decide +kernel⟩ rfl rfl (fun _ _ _ _ _ _ us hl => match us, hl with | [_, _], _ => rfl) fun cdv A outer s H E f hr => bd_are_all_round h cdv A outer s H E f hr
theorem bd_is_formed (h : Hd P w K mg base T) (cdv : Value) (A : Around) (outer : List Env) (s : Shared) (H : Hp) (E : XK) (f : Addr) : Room 10 (A.deeper (envOfC "is_formed" (defScope (top 45)) s.heap.objs.size f cdv)) → PSs (cxOf (L2.CX P w) P w K mg base ["value", "stores", "row"] "is_formed" (defScope (top 45)) f cdv A outer s H E) (defBody (top 45)) (tS K T E is_formedB) := fun hr => by
  have nd : (["value", "stores", "row"] : List Str).Nodup := by decide +kernel
  exact s_cons (s_if ((w_or (t_not (t_tru (x_isiLots h (x_var 0)))) (w_or (t_not (t_tru (x_call (fd_is_listed h) hr pass_body (a_cons (x_fld h.fld2 (x_var 0)) (a_nil))))) (w_or (t_cmp (c_eq (Room.units hr)) (x_len h.len (x_fld h.fld2 (x_var 0))) (x_int)) (w_or1 (t_not (t_tru (x_call (fd_is_listed h) hr pass_body (a_cons (x_idx (x_fld h.fld2 (x_var 0)) (x_int)) (a_nil))))))))).pt) (s_cons (s_ret (x_bl)) (s_nil)) (s_nil)) (s_cons (s_set 1 nd (x_len h.len (x_idx (x_fld h.fld2 (x_var 0)) (x_int)))) (s_cons (s_if ((w_or (t_not (t_chn (c_le) (c_le) (x_int) (x_var 1) (x_gint h.most))) (w_or1 (t_not (t_tru (x_call (fd_are_rays h) hr pass_body (a_cons (x_fld h.fld2 (x_var 0)) (a_cons (x_var 1) (a_nil)))))))).pt) (s_cons (s_ret (x_bl)) (s_nil)) (s_nil)) (s_cons (s_if ((w_or (t_not (t_tru (x_call (fd_is_listed h) hr pass_body (a_cons (x_fld h.fld3 (x_var 0)) (a_nil))))) (w_or1 (t_cmp (c_eq (Room.units hr)) (x_len h.len (x_fld h.fld3 (x_var 0))) (x_int)))).pt) (s_cons (s_ret (x_bl)) (s_nil)) (s_nil)) (s_cons (s_if (t_not (t_tru (x_all rfl h.all (x_comp (own := [("row", 2)]) (t := (.nm 2)) rfl nd (i_seq (x_fld h.fld3 (x_var 0))) (blkOk_by (by kernel_rfl)) (by decide) (fun _ _ _ _ _ => (pg_name (i := 2) nd rfl (by first | exact Or.inl rfl | exact Or.inr rfl))) (fun _ _ _ _ _ => t_yes) (fun _ _ _ _ _ => x_call (fd_are_fractions h) hr passL (a_cons (x_var 2) (a_cons (x_len h.len (x_fld h.fld2 (x_var 0))) (a_nil)))))))) (s_cons (s_ret (x_bl)) (s_nil)) (s_nil)) (s_cons (s_ret (x_call (fd_are_all_round h) hr pass_body (a_cons (x_fld h.fld2 (x_var 0)) (a_cons (x_fld h.fld3 (x_var 0)) (a_nil))))) (s_nil))))))
theorem fd_is_formed (h : Hd P w K mg base T) : Fd P w K mg base T 11 "is_formed" 1 is_formedF := fd_at (N := ["value", "stores", "row"]) (ps := ["value"]) h.f_is_formed ⟨rfl, rfl, rfl, by decide +kernel, rfl, by decide +kernel, by decide +kernel⟩ rfl rfl (fun _ _ _ _ _ _ us hl => match us, hl with | [_], _ => rfl) fun cdv A outer s H E f hr => bd_is_formed h cdv A outer s H E f hr
theorem bd_worth_by (h : Hd P w K mg base T) (cdv : Value) (A : Around) (outer : List Env) (s : Shared) (H : Hp) (E : XK) (f : Addr) : Room 2 (A.deeper (envOfC "worth_by" (defScope (top 46)) s.heap.objs.size f cdv)) → PSs (cxOf (L2.CX P w) P w K mg base ["ray", "point", "found", "price", "part"] "worth_by" (defScope (top 46)) f cdv A outer s H E) (defBody (top 46)) (tS K T E worth_byB) := fun hr => by
  have nd : (["ray", "point", "found", "price", "part"] : List Str).Nodup := by decide +kernel
  exact s_cons (s_set 2 nd (x_tup (a_cons (x_int) (a_cons (x_int) (a_nil))))) (s_cons (s_for (t := (.tp [3, 4])) own_body rfl (i_zip h.zip (x_var 0) (x_var 1)) (pg_tup rfl (pgs_cons (pg_name (i := 3) nd rfl (by first | exact Or.inl rfl | exact Or.inr rfl)) (pgs_cons (pg_name (i := 4) nd rfl (by first | exact Or.inl rfl | exact Or.inr rfl)) pgs_nil))) (s_cons (s_set 2 nd (x_call (fd_plus h) hr pass_body (a_cons (x_var 2) (a_cons (x_call (fd_times h) hr pass_body (a_cons (x_var 4) (a_cons (x_var 3) (a_nil)))) (a_nil))))) (s_nil))) (s_cons (s_ret (x_var 2)) (s_nil)))
theorem fd_worth_by (h : Hd P w K mg base T) : Fd P w K mg base T 3 "worth_by" 2 worth_byF := fd_at (N := ["ray", "point", "found", "price", "part"]) (ps := ["ray", "point"]) h.f_worth_by ⟨rfl, rfl, rfl, by decide +kernel, rfl, by decide +kernel, by decide +kernel⟩ rfl rfl (fun _ _ _ _ _ _ us hl => match us, hl with | [_, _], _ => rfl) fun cdv A outer s H E f hr => bd_worth_by h cdv A outer s H E f hr
theorem bd_corner_at (h : Hd P w K mg base T) (cdv : Value) (A : Around) (outer : List Env) (s : Shared) (H : Hp) (E : XK) (f : Addr) : Room 2 (A.deeper (envOfC "corner_at" (defScope (top 47)) s.heap.objs.size f cdv)) → PSs (cxOf (L2.CX P w) P w K mg base ["rays", "numbers", "at", "one", "other", "first", "last", "whole", "x", "y"] "corner_at" (defScope (top 47)) f cdv A outer s H E) (defBody (top 47)) (tS K T E corner_atB) := fun hr => by
  have nd : (["rays", "numbers", "at", "one", "other", "first", "last", "whole", "x", "y"] : List Str).Nodup := by decide +kernel
  exact s_cons (s_par2 3 4 rfl nd (by decide) (x_idx (x_var 0) (x_var 2)) (x_idx (x_var 0) (x_mod (x_add (x_var 2) (x_int)) (x_len h.len (x_var 0))))) (s_cons (s_par3 5 6 7 rfl nd (by decide) (by decide) (by decide) (x_idx (x_var 1) (x_var 2)) (x_idx (x_var 1) (x_mod (x_add (x_var 2) (x_int)) (x_len h.len (x_var 0)))) (x_call (fd_turn_of h) hr pass_body (a_cons (x_var 3) (a_cons (x_var 4) (a_nil))))) (s_cons (s_set 8 nd (x_call (fd_plus h) hr pass_body (a_cons (x_call (fd_times h) hr pass_body (a_cons (x_var 5) (a_cons (x_idx (x_var 4) (x_int)) (a_nil)))) (a_cons (x_call (fd_times h) hr pass_body (a_cons (x_var 6) (a_cons (x_neg (x_idx (x_var 3) (x_int))) (a_nil)))) (a_nil))))) (s_cons (s_set 9 nd (x_call (fd_plus h) hr pass_body (a_cons (x_call (fd_times h) hr pass_body (a_cons (x_var 5) (a_cons (x_neg (x_idx (x_var 4) (x_int))) (a_nil)))) (a_cons (x_call (fd_times h) hr pass_body (a_cons (x_var 6) (a_cons (x_idx (x_var 3) (x_int)) (a_nil)))) (a_nil))))) (s_cons (s_ret (x_tup (a_cons (x_call (fd_lowest_of h) hr pass_body (a_cons (x_idx (x_var 8) (x_int)) (a_cons (x_mul (x_idx (x_var 8) (x_int)) (x_var 7)) (a_nil)))) (a_cons (x_call (fd_lowest_of h) hr pass_body (a_cons (x_idx (x_var 9) (x_int)) (a_cons (x_mul (x_idx (x_var 9) (x_int)) (x_var 7)) (a_nil)))) (a_nil))))) (s_nil)))))
theorem fd_corner_at (h : Hd P w K mg base T) : Fd P w K mg base T 3 "corner_at" 3 corner_atF := fd_at (N := ["rays", "numbers", "at", "one", "other", "first", "last", "whole", "x", "y"]) (ps := ["rays", "numbers", "at"]) h.f_corner_at ⟨rfl, rfl, rfl, by decide +kernel, rfl, by decide +kernel, by decide +kernel⟩ rfl rfl (fun _ _ _ _ _ _ us hl => match us, hl with | [_, _, _], _ => rfl) fun cdv A outer s H E f hr => bd_corner_at h cdv A outer s H E f hr
theorem bd_need_lots (h : Hd P w K mg base T) (cdv : Value) (A : Around) (outer : List Env) (s : Shared) (H : Hp) (E : XK) (f : Addr) : Room 11 (A.deeper (envOfC "need_lots" (defScope (top 48)) s.heap.objs.size f cdv)) → PSs (cxOf (L2.CX P w) P w K mg base ["value", "guess"] "need_lots" (defScope (top 48)) f cdv A outer s H E) (defBody (top 48)) (tS K T E need_lotsB) := fun hr => by
  have nd : (["value", "guess"] : List Str).Nodup := by decide +kernel
  exact s_cons (s_expr (x_call (fd_need_value h) hr pass_body (a_cons (x_call (fd_is_formed h) hr pass_body (a_cons (x_var 0) (a_nil))) (a_cons (x_str) (a_nil))))) (s_cons (s_expr (x_call (fd_need_number h) hr pass_body (a_cons (x_var 1) (a_cons (x_str) (a_cons (x_int) (a_cons (x_sub (x_len h.len (x_fld h.fld3 (x_var 0))) (x_int)) (a_nil))))))) (s_nil))
theorem fd_need_lots (h : Hd P w K mg base T) : Fd P w K mg base T 12 "need_lots" 2 need_lotsF := fd_at (N := ["value", "guess"]) (ps := ["value", "guess"]) h.f_need_lots ⟨rfl, rfl, rfl, by decide +kernel, rfl, by decide +kernel, by decide +kernel⟩ rfl rfl (fun _ _ _ _ _ _ us hl => match us, hl with | [_, _], _ => rfl) fun cdv A outer s H E f hr => bd_need_lots h cdv A outer s H E f hr
theorem bd_is_in (h : Hd P w K mg base T) (cdv : Value) (A : Around) (outer : List Env) (s : Shared) (H : Hp) (E : XK) (f : Addr) : Room 12 (A.deeper (envOfC "is_in" (defScope (top 49)) s.heap.objs.size f cdv)) → PSs (cxOf (L2.CX P w) P w K mg base ["held", "guess", "point", "ray", "number", "worth"] "is_in" (defScope (top 49)) f cdv A outer s H E) (defBody (top 49)) (tS K T E is_inB) := fun hr => by
  have nd : (["held", "guess", "point", "ray", "number", "worth"] : List Str).Nodup := by decide +kernel
  exact s_cons (s_expr (x_call (fd_need_lots h) hr pass_body (a_cons (x_var 0) (a_cons (x_var 1) (a_nil))))) (s_cons (s_expr (x_call (fd_need_value h) hr pass_body (a_cons (x_call (fd_are_fractions h) hr pass_body (a_cons (x_var 2) (a_cons (x_len h.len (x_idx (x_fld h.fld2 (x_var 0)) (x_int))) (a_nil)))) (a_cons (x_str) (a_nil))))) (s_cons (s_for (t := (.tp [3, 4])) own_body rfl (i_zip h.zip (x_fld h.fld2 (x_var 0)) (x_idx (x_fld h.fld3 (x_var 0)) (x_var 1))) (pg_tup rfl (pgs_cons (pg_name (i := 3) nd rfl (by first | exact Or.inl rfl | exact Or.inr rfl)) (pgs_cons (pg_name (i := 4) nd rfl (by first | exact Or.inl rfl | exact Or.inr rfl)) pgs_nil))) (s_cons (s_set 5 nd (x_call (fd_worth_by h) hr pass_body (a_cons (x_var 3) (a_cons (x_var 2) (a_nil))))) (s_cons (s_if (t_cmp (c_gt) (x_mul (x_idx (x_var 5) (x_int)) (x_idx (x_var 4) (x_int))) (x_mul (x_idx (x_var 4) (x_int)) (x_idx (x_var 5) (x_int)))) (s_cons (s_ret (x_bl)) (s_nil)) (s_nil)) (s_nil)))) (s_cons (s_ret (x_bl)) (s_nil))))
theorem fd_is_in (h : Hd P w K mg base T) : Fd P w K mg base T 13 "is_in" 3 is_inF := fd_at (N := ["held", "guess", "point", "ray", "number", "worth"]) (ps := ["held", "guess", "point"]) h.f_is_in ⟨rfl, rfl, rfl, by decide +kernel, rfl, by decide +kernel, by decide +kernel⟩ rfl rfl (fun _ _ _ _ _ _ us hl => match us, hl with | [_, _, _], _ => rfl) fun cdv A outer s H E f hr => bd_is_in h cdv A outer s H E f hr
theorem fdK_is_in (h : Hd P w K mg base T) : FdK P w K mg base T 13 "is_in" 3 is_inF ["point", "guess", "held"] turn3 := fdK_at (N := ["held", "guess", "point", "ray", "number", "worth"]) (ps := ["held", "guess", "point"]) h.f_is_in ⟨rfl, rfl, rfl, by decide +kernel, rfl, by decide +kernel, by decide +kernel⟩ rfl rfl (fun _ _ _ _ _ _ ws hl => match ws, hl with | [_, _, _], _ => rfl) turn3_vals turn3_rps fun cdv A outer s H E f hr => bd_is_in h cdv A outer s H E f hr
theorem bd_corners (h : Hd P w K mg base T) (cdv : Value) (A : Around) (outer : List Env) (s : Shared) (H : Hp) (E : XK) (f : Addr) : Room 12 (A.deeper (envOfC "corners" (defScope (top 50)) s.heap.objs.size f cdv)) → PSs (cxOf (L2.CX P w) P w K mg base ["held", "guess", "rays", "numbers", "at"] "corners" (defScope (top 50)) f cdv A outer s H E) (defBody (top 50)) (tS K T E cornersB) := fun hr => by
  have nd : (["held", "guess", "rays", "numbers", "at"] : List Str).Nodup := by decide +kernel
  exact s_cons (s_expr (x_call (fd_need_lots h) hr pass_body (a_cons (x_var 0) (a_cons (x_var 1) (a_nil))))) (s_cons (s_asg (t := (.tp [2, 3])) (pg_tup rfl (pgs_cons (pg_name (i := 2) nd rfl (by first | exact Or.inl rfl | exact Or.inr rfl)) (pgs_cons (pg_name (i := 3) nd rfl (by first | exact Or.inl rfl | exact Or.inr rfl)) pgs_nil))) (x_tup (a_cons (x_fld h.fld2 (x_var 0)) (a_cons (x_idx (x_fld h.fld3 (x_var 0)) (x_var 1)) (a_nil))))) (s_cons (s_if (t_cmp (c_eq (Room.units hr)) (x_len h.len (x_idx (x_var 2) (x_int))) (x_int)) (s_cons (s_ret (x_tup (a_cons (x_tup (a_cons (x_call (fd_times h) hr pass_body (a_cons (x_idx (x_var 3) (x_int)) (a_cons (x_neg (x_int)) (a_nil)))) (a_nil))) (a_cons (x_tup (a_cons (x_idx (x_var 3) (x_int)) (a_nil))) (a_nil))))) (s_nil)) (s_nil)) (s_cons (s_ret (x_tuple h.tuple (x_comp (own := [("at", 4)]) (t := (.nm 4)) rfl nd (i_range h.range (x_len h.len (x_call (fd_neighbours h) hr pass_body (a_cons (x_var 2) (a_nil))))) (blkOk_by (by kernel_rfl)) (by decide) (fun _ _ _ _ _ => (pg_name (i := 4) nd rfl (by first | exact Or.inl rfl | exact Or.inr rfl))) (fun _ _ _ _ _ => t_yes) (fun _ _ _ _ _ => x_call (fd_corner_at h) hr passL (a_cons (x_var 2) (a_cons (x_var 3) (a_cons (x_var 4) (a_nil)))))))) (s_nil))))
theorem fd_corners (h : Hd P w K mg base T) : Fd P w K mg base T 13 "corners" 2 cornersF := fd_at (N := ["held", "guess", "rays", "numbers", "at"]) (ps := ["held", "guess"]) h.f_corners ⟨rfl, rfl, rfl, by decide +kernel, rfl, by decide +kernel, by decide +kernel⟩ rfl rfl (fun _ _ _ _ _ _ us hl => match us, hl with | [_, _], _ => rfl) fun cdv A outer s H E f hr => bd_corners h cdv A outer s H E f hr
theorem fdK_corners (h : Hd P w K mg base T) : FdK P w K mg base T 13 "corners" 2 cornersF ["guess", "held"] turn2 := fdK_at (N := ["held", "guess", "rays", "numbers", "at"]) (ps := ["held", "guess"]) h.f_corners ⟨rfl, rfl, rfl, by decide +kernel, rfl, by decide +kernel, by decide +kernel⟩ rfl rfl (fun _ _ _ _ _ _ ws hl => match ws, hl with | [_, _], _ => rfl) turn2_vals turn2_rps fun cdv A outer s H E f hr => bd_corners h cdv A outer s H E f hr
theorem bd_widths (h : Hd P w K mg base T) (cdv : Value) (A : Around) (outer : List Env) (s : Shared) (H : Hp) (E : XK) (f : Addr) : Room 13 (A.deeper (envOfC "widths" (defScope (top 51)) s.heap.objs.size f cdv)) → PSs (cxOf (L2.CX P w) P w K mg base ["held", "guess", "some", "found", "store", "bottom", "point", "tops"] "widths" (defScope (top 51)) f cdv A outer s H E) (defBody (top 51)) (tS K T E widthsB) := fun hr => by
  have nd : (["held", "guess", "some", "found", "store", "bottom", "point", "tops"] : List Str).Nodup := by decide +kernel
  exact s_cons (s_par2m 2 3 rfl nd (by decide) (x_call (fd_corners h) hr pass_body (a_cons (x_var 0) (a_cons (x_var 1) (a_nil))))) (s_cons (s_for (t := (.nm 4)) own_body rfl (i_range h.range (x_len h.len (x_idx (x_var 2) (x_int)))) (pg_name (i := 4) nd rfl (by first | exact Or.inl rfl | exact Or.inr rfl)) (s_cons (s_set 5 nd (x_call (fd_shared_bottom h) hr pass_body (a_cons (x_comp (own := [("point", 6)]) (t := (.nm 6)) rfl nd (i_seq (x_var 2)) (blkOk_by (by kernel_rfl)) (by decide) (fun _ _ _ _ _ => (pg_name (i := 6) nd rfl (by first | exact Or.inl rfl | exact Or.inr rfl))) (fun _ _ _ _ _ => t_yes) (fun _ _ _ _ _ => x_idx (x_var 6) (x_var 4))) (a_nil)))) (s_cons (s_setLc (own := [("point", 6)]) (t := (.nm 6)) 7 rfl nd (i_seq (x_var 2)) (blkOk_by (by kernel_rfl)) (by decide) (fun _ _ _ _ _ => (pg_name (i := 6) nd rfl (by first | exact Or.inl rfl | exact Or.inr rfl))) (fun _ _ _ _ _ => t_yes) (fun _ _ _ _ _ => x_call (fd_over_it h) hr passL (a_cons (x_idx (x_var 6) (x_var 4)) (a_cons (x_var 5) (a_nil))))) (s_cons (s_app 3 (x_tup (a_cons (x_call (fd_lowest_of h) hr pass_body (a_cons (x_min rfl h.min (x_var 7)) (a_cons (x_var 5) (a_nil)))) (a_cons (x_call (fd_lowest_of h) hr pass_body (a_cons (x_max rfl h.max (x_var 7)) (a_cons (x_var 5) (a_nil)))) (a_nil))))) (s_nil))))) (s_cons (s_ret (x_tupM 3 h.tuple)) (s_nil)))
theorem fd_widths (h : Hd P w K mg base T) : Fd P w K mg base T 14 "widths" 2 widthsF := fd_at (N := ["held", "guess", "some", "found", "store", "bottom", "point", "tops"]) (ps := ["held", "guess"]) h.f_widths ⟨rfl, rfl, rfl, by decide +kernel, rfl, by decide +kernel, by decide +kernel⟩ rfl rfl (fun _ _ _ _ _ _ us hl => match us, hl with | [_, _], _ => rfl) fun cdv A outer s H E f hr => bd_widths h cdv A outer s H E f hr
theorem bd_middle (h : Hd P w K mg base T) (cdv : Value) (A : Around) (outer : List Env) (s : Shared) (H : Hp) (E : XK) (f : Addr) : Room 13 (A.deeper (envOfC "middle" (defScope (top 52)) s.heap.objs.size f cdv)) → PSs (cxOf (L2.CX P w) P w K mg base ["held", "guess", "some", "found", "store", "total", "point"] "middle" (defScope (top 52)) f cdv A outer s H E) (defBody (top 52)) (tS K T E middleB) := fun hr => by
  have nd : (["held", "guess", "some", "found", "store", "total", "point"] : List Str).Nodup := by decide +kernel
  exact s_cons (s_par2m 2 3 rfl nd (by decide) (x_call (fd_corners h) hr pass_body (a_cons (x_var 0) (a_cons (x_var 1) (a_nil))))) (s_cons (s_for (t := (.nm 4)) own_body rfl (i_range h.range (x_len h.len (x_idx (x_var 2) (x_int)))) (pg_name (i := 4) nd rfl (by first | exact Or.inl rfl | exact Or.inr rfl)) (s_cons (s_set 5 nd (x_tup (a_cons (x_int) (a_cons (x_int) (a_nil))))) (s_cons (s_for (t := (.nm 6)) own_body rfl (i_seq (x_var 2)) (pg_name (i := 6) nd rfl (by first | exact Or.inl rfl | exact Or.inr rfl)) (s_cons (s_set 5 nd (x_call (fd_plus h) hr pass_body (a_cons (x_var 5) (a_cons (x_idx (x_var 6) (x_var 4)) (a_nil))))) (s_nil))) (s_cons (s_app 3 (x_call (fd_lowest_of h) hr pass_body (a_cons (x_idx (x_var 5) (x_int)) (a_cons (x_mul (x_idx (x_var 5) (x_int)) (x_len h.len (x_var 2))) (a_nil))))) (s_nil))))) (s_cons (s_ret (x_tupM 3 h.tuple)) (s_nil)))
theorem fd_middle (h : Hd P w K mg base T) : Fd P w K mg base T 14 "middle" 2 middleF := fd_at (N := ["held", "guess", "some", "found", "store", "total", "point"]) (ps := ["held", "guess"]) h.f_middle ⟨rfl, rfl, rfl, by decide +kernel, rfl, by decide +kernel, by decide +kernel⟩ rfl rfl (fun _ _ _ _ _ _ us hl => match us, hl with | [_, _], _ => rfl) fun cdv A outer s H E f hr => bd_middle h cdv A outer s H E f hr
theorem bd_law_draw (h : Hd P w K mg base T) (cdv : Value) (A : Around) (outer : List Env) (s : Shared) (H : Hp) (E : XK) (f : Addr) : Room 0 (A.deeper (envOfC "_law_draw" (defScope (top 55)) s.heap.objs.size f cdv)) → PSs (cxOf (L2.CX P w) P w K mg base ["pen", "many", "digit", "at", "cell", "great", "blend"] "_law_draw" (defScope (top 55)) f cdv A outer s H E) (defBody (top 55)) (tS K T E law_drawB) := fun hr => by
  have nd : (["pen", "many", "digit", "at", "cell", "great", "blend"] : List Str).Nodup := by decide +kernel
  exact s_cons (s_if (t_cmp (c_gt) (x_pen (n := 2) (x_var 0)) (x_int)) (s_cons (s_set 2 nd (x_mod (x_toint h.int (x_pen (n := 2) (x_var 0))) (x_var 1))) (s_cons (s_pen (n := 2) (x_var 0) (x_fdiv (x_toint h.int (x_pen (n := 2) (x_var 0))) (x_var 1))) (s_cons (s_ret (x_var 2)) (s_nil)))) (s_nil)) (s_cons (s_set 3 nd (x_pen (n := 1) (x_var 0))) (s_cons (s_pen (n := 1) (x_var 0) (x_add (x_var 3) (x_int))) (s_cons (s_set 4 nd (x_add (x_mul (x_int) (x_var 3)) (x_int))) (s_cons (s_if (t_cmp (c_ne (Room.units hr)) (x_pen (n := 0) (x_var 0)) (x_lst (a_nil))) (s_cons (s_set 4 nd (x_idx (x_pen (n := 0) (x_var 0)) (x_mod (x_toint h.int (x_var 3)) (x_len h.len (x_pen (n := 0) (x_var 0)))))) (s_nil)) (s_nil)) (s_cons (s_if ((w_and (t_cmp (c_lt) (x_var 3) (x_len h.len (x_pen (n := 0) (x_var 0)))) (w_and1 (t_cmp (c_ge) (x_abs h.abs (x_var 4)) (x_pow (x_int) (x_int))))).pt) (s_cons (s_set 5 nd (x_add (x_big (x_int) (x_sub (x_abs h.abs (x_var 4)) (x_pow (x_int) (x_int)))) (x_toint h.int (x_cmp (c_lt) (x_var 4) (x_int))))) (s_cons (s_pen (n := 2) (x_var 0) (x_fdiv (x_toint h.int (x_var 5)) (x_var 1))) (s_cons (s_ret (x_mod (x_toint h.int (x_var 5)) (x_var 1))) (s_nil)))) (s_nil)) (s_cons (s_set 6 nd (x_mod (x_toint h.int (x_pow (x_add (x_add (x_mod (x_toint h.int (x_var 4)) (x_int)) (x_mul (x_int) (x_var 3))) (x_int)) (x_int))) (x_int))) (s_cons (s_set 6 nd (x_mod (x_toint h.int (x_pow (x_add (x_add (x_mul (x_var 6) (x_add (x_mul (x_int) (x_var 3)) (x_int))) (x_mul (x_mul (x_int) (x_var 3)) (x_var 3))) (x_int)) (x_int))) (x_int))) (s_cons (s_ret (x_mod (x_toint h.int (x_fdiv (x_var 6) (x_int))) (x_var 1))) (s_nil)))))))))
theorem fd_law_draw (h : Hd P w K mg base T) : Fd P w K mg base T 1 "_law_draw" 2 law_drawF := fd_at (N := ["pen", "many", "digit", "at", "cell", "great", "blend"]) (ps := ["pen", "many"]) h.f_law_draw ⟨rfl, rfl, rfl, by decide +kernel, rfl, by decide +kernel, by decide +kernel⟩ rfl rfl (fun _ _ _ _ _ _ us hl => match us, hl with | [_, _], _ => rfl) fun cdv A outer s H E f hr => bd_law_draw h cdv A outer s H E f hr
theorem bd_law_pick (h : Hd P w K mg base T) (cdv : Value) (A : Around) (outer : List Env) (s : Shared) (H : Hp) (E : XK) (f : Addr) : Room 1 (A.deeper (envOfC "_law_pick" (defScope (top 56)) s.heap.objs.size f cdv)) → PSs (cxOf (L2.CX P w) P w K mg base ["pen", "some"] "_law_pick" (defScope (top 56)) f cdv A outer s H E) (defBody (top 56)) (tS K T E law_pickB) := fun hr => by
  have nd : (["pen", "some"] : List Str).Nodup := by decide +kernel
  exact s_cons (s_ret (x_idx (x_var 1) (x_call (fd_law_draw h) hr pass_body (a_cons (x_var 0) (a_cons (x_len h.len (x_var 1)) (a_nil)))))) (s_nil)
theorem fd_law_pick (h : Hd P w K mg base T) : Fd P w K mg base T 2 "_law_pick" 2 law_pickF := fd_at (N := ["pen", "some"]) (ps := ["pen", "some"]) h.f_law_pick ⟨rfl, rfl, rfl, by decide +kernel, rfl, by decide +kernel, by decide +kernel⟩ rfl rfl (fun _ _ _ _ _ _ us hl => match us, hl with | [_, _], _ => rfl) fun cdv A outer s H E f hr => bd_law_pick h cdv A outer s H E f hr
theorem bd_law_turn (h : Hd P w K mg base T) (cdv : Value) (A : Around) (outer : List Env) (s : Shared) (H : Hp) (E : XK) (f : Addr) : Room 0 (A.deeper (envOfC "_law_turn" (defScope (top 58)) s.heap.objs.size f cdv)) → PSs (cxOf (L2.CX P w) P w K mg base ["one", "other"] "_law_turn" (defScope (top 58)) f cdv A outer s H E) (defBody (top 58)) (tS K T E law_turnB) := fun hr => by
  have nd : (["one", "other"] : List Str).Nodup := by decide +kernel
  exact s_cons (s_ret (x_sub (x_mul (x_idx (x_var 0) (x_int)) (x_idx (x_var 1) (x_int))) (x_mul (x_idx (x_var 0) (x_int)) (x_idx (x_var 1) (x_int))))) (s_nil)
theorem fd_law_turn (h : Hd P w K mg base T) : Fd P w K mg base T 1 "_law_turn" 2 law_turnF := fd_at (N := ["one", "other"]) (ps := ["one", "other"]) h.f_law_turn ⟨rfl, rfl, rfl, by decide +kernel, rfl, by decide +kernel, by decide +kernel⟩ rfl rfl (fun _ _ _ _ _ _ us hl => match us, hl with | [_, _], _ => rfl) fun cdv A outer s H E f hr => bd_law_turn h cdv A outer s H E f hr
theorem bd_law_low_ray (h : Hd P w K mg base T) (cdv : Value) (A : Around) (outer : List Env) (s : Shared) (H : Hp) (E : XK) (f : Addr) : Room 0 (A.deeper (envOfC "_law_low_ray" (defScope (top 59)) s.heap.objs.size f cdv)) → PSs (cxOf (L2.CX P w) P w K mg base ["ray", "one", "other"] "_law_low_ray" (defScope (top 59)) f cdv A outer s H E) (defBody (top 59)) (tS K T E law_low_rayB) := fun hr => by
  have nd : (["ray", "one", "other"] : List Str).Nodup := by decide +kernel
  exact s_cons (s_par2 1 2 rfl nd (by decide) (x_abs h.abs (x_idx (x_var 0) (x_int))) (x_abs h.abs (x_idx (x_var 0) (x_int)))) (s_cons (s_while (n := 200000) own_body (t_cmp (c_ne (Room.units hr)) (x_var 2) (x_int)) (s_cons (s_par2 1 2 rfl nd (by decide) (x_var 2) (x_mod (x_toint h.int (x_var 1)) (x_var 2))) (s_nil))) (s_cons (s_ret (x_tup (a_cons (x_fdiv (x_idx (x_var 0) (x_int)) (x_var 1)) (a_cons (x_fdiv (x_idx (x_var 0) (x_int)) (x_var 1)) (a_nil))))) (s_nil)))
theorem fd_law_low_ray (h : Hd P w K mg base T) : Fd P w K mg base T 1 "_law_low_ray" 1 law_low_rayF := fd_at (N := ["ray", "one", "other"]) (ps := ["ray"]) h.f_law_low_ray ⟨rfl, rfl, rfl, by decide +kernel, rfl, by decide +kernel, by decide +kernel⟩ rfl rfl (fun _ _ _ _ _ _ us hl => match us, hl with | [_], _ => rfl) fun cdv A outer s H E f hr => bd_law_low_ray h cdv A outer s H E f hr
theorem bd_law_half (h : Hd P w K mg base T) (cdv : Value) (A : Around) (outer : List Env) (s : Shared) (H : Hp) (E : XK) (f : Addr) : Room 0 (A.deeper (envOfC "_law_half" (defScope (top 60)) s.heap.objs.size f cdv)) → PSs (cxOf (L2.CX P w) P w K mg base ["ray"] "_law_half" (defScope (top 60)) f cdv A outer s H E) (defBody (top 60)) (tS K T E law_halfB) := fun hr => by
  have nd : (["ray"] : List Str).Nodup := by decide +kernel
  exact s_cons (s_ret (x_ife ((w_or (t_cmp (c_gt) (x_idx (x_var 0) (x_int)) (x_int)) (w_or1 ((w_and (t_cmp (c_eq (Room.units hr)) (x_idx (x_var 0) (x_int)) (x_int)) (w_and1 (t_cmp (c_gt) (x_idx (x_var 0) (x_int)) (x_int)))).pt))).pt) (x_int) (x_int))) (s_nil)
theorem fd_law_half (h : Hd P w K mg base T) : Fd P w K mg base T 1 "_law_half" 1 law_halfF := fd_at (N := ["ray"]) (ps := ["ray"]) h.f_law_half ⟨rfl, rfl, rfl, by decide +kernel, rfl, by decide +kernel, by decide +kernel⟩ rfl rfl (fun _ _ _ _ _ _ us hl => match us, hl with | [_], _ => rfl) fun cdv A outer s H E f hr => bd_law_half h cdv A outer s H E f hr
theorem bd_law_by_angle (h : Hd P w K mg base T) (cdv : Value) (A : Around) (outer : List Env) (s : Shared) (H : Hp) (E : XK) (f : Addr) : Room 1 (A.deeper (envOfC "_law_by_angle" (defScope (top 61)) s.heap.objs.size f cdv)) → PSs (cxOf (L2.CX P w) P w K mg base ["rays", "found", "ray", "at"] "_law_by_angle" (defScope (top 61)) f cdv A outer s H E) (defBody (top 61)) (tS K T E law_by_angleB) := fun hr => by
  have nd : (["rays", "found", "ray", "at"] : List Str).Nodup := by decide +kernel
  exact s_cons (s_new 1 nd) (s_cons (s_for (t := (.nm 2)) own_body rfl (i_seq (x_var 0)) (pg_name (i := 2) nd rfl (by first | exact Or.inl rfl | exact Or.inr rfl)) (s_cons (s_set 3 nd (x_int)) (s_cons (s_while (n := 1000) own_body ((w_and (t_cmp (c_lt) (x_var 3) (x_lenM 1 h.len)) (w_and1 ((w_or (t_cmp (c_lt) (x_call (fd_law_half h) hr pass_body (a_cons (x_idxM 1 (x_var 3)) (a_nil))) (x_call (fd_law_half h) hr pass_body (a_cons (x_var 2) (a_nil)))) (w_or1 ((w_and (t_cmp (c_eq (Room.units hr)) (x_call (fd_law_half h) hr pass_body (a_cons (x_idxM 1 (x_var 3)) (a_nil))) (x_call (fd_law_half h) hr pass_body (a_cons (x_var 2) (a_nil)))) (w_and1 (t_cmp (c_gt) (x_call (fd_law_turn h) hr pass_body (a_cons (x_idxM 1 (x_var 3)) (a_cons (x_var 2) (a_nil)))) (x_int)))).pt))).pt))).pt) (s_cons (s_set 3 nd (x_add (x_var 3) (x_int))) (s_nil))) (s_cons (s_if ((w_or (t_cmp (c_eq (Room.units hr)) (x_var 3) (x_lenM 1 h.len)) (w_or1 (t_cmp (c_ne (Room.units hr)) (x_idxM 1 (x_var 3)) (x_var 2)))).pt) (s_cons (s_ins 1 (x_var 3) (x_var 2)) (s_nil)) (s_nil)) (s_nil))))) (s_cons (s_retM 1) (s_nil)))
theorem fd_law_by_angle (h : Hd P w K mg base T) : Fd P w K mg base T 2 "_law_by_angle" 1 law_by_angleF := fd_at (N := ["rays", "found", "ray", "at"]) (ps := ["rays"]) h.f_law_by_angle ⟨rfl, rfl, rfl, by decide +kernel, rfl, by decide +kernel, by decide +kernel⟩ rfl rfl (fun _ _ _ _ _ _ us hl => match us, hl with | [_], _ => rfl) fun cdv A outer s H E f hr => bd_law_by_angle h cdv A outer s H E f hr
theorem bd_law_gcd (h : Hd P w K mg base T) (cdv : Value) (A : Around) (outer : List Env) (s : Shared) (H : Hp) (E : XK) (f : Addr) : Room 0 (A.deeper (envOfC "_law_gcd" (defScope (top 62)) s.heap.objs.size f cdv)) → PSs (cxOf (L2.CX P w) P w K mg base ["one", "other"] "_law_gcd" (defScope (top 62)) f cdv A outer s H E) (defBody (top 62)) (tS K T E law_gcdB) := fun hr => by
  have nd : (["one", "other"] : List Str).Nodup := by decide +kernel
  exact s_cons (s_par2 0 1 rfl nd (by decide) (x_abs h.abs (x_var 0)) (x_abs h.abs (x_var 1))) (s_cons (s_while (n := 200000) own_body (t_cmp (c_ne (Room.units hr)) (x_var 1) (x_int)) (s_cons (s_par2 0 1 rfl nd (by decide) (x_var 1) (x_mod (x_toint h.int (x_var 0)) (x_var 1))) (s_nil))) (s_cons (s_ret (x_var 0)) (s_nil)))
theorem fd_law_gcd (h : Hd P w K mg base T) : Fd P w K mg base T 1 "_law_gcd" 2 law_gcdF := fd_at (N := ["one", "other"]) (ps := ["one", "other"]) h.f_law_gcd ⟨rfl, rfl, rfl, by decide +kernel, rfl, by decide +kernel, by decide +kernel⟩ rfl rfl (fun _ _ _ _ _ _ us hl => match us, hl with | [_, _], _ => rfl) fun cdv A outer s H E f hr => bd_law_gcd h cdv A outer s H E f hr
theorem bd_law_frac (h : Hd P w K mg base T) (cdv : Value) (A : Around) (outer : List Env) (s : Shared) (H : Hp) (E : XK) (f : Addr) : Room 1 (A.deeper (envOfC "_law_frac" (defScope (top 63)) s.heap.objs.size f cdv)) → PSs (cxOf (L2.CX P w) P w K mg base ["top", "bottom", "by"] "_law_frac" (defScope (top 63)) f cdv A outer s H E) (defBody (top 63)) (tS K T E law_fracB) := fun hr => by
  have nd : (["top", "bottom", "by"] : List Str).Nodup := by decide +kernel
  exact s_cons (s_set 2 nd (x_call (fd_law_gcd h) hr pass_body (a_cons (x_var 0) (a_cons (x_var 1) (a_nil))))) (s_cons (s_ret (x_tup (a_cons (x_fdiv (x_var 0) (x_var 2)) (a_cons (x_fdiv (x_var 1) (x_var 2)) (a_nil))))) (s_nil))
theorem fd_law_frac (h : Hd P w K mg base T) : Fd P w K mg base T 2 "_law_frac" 2 law_fracF := fd_at (N := ["top", "bottom", "by"]) (ps := ["top", "bottom"]) h.f_law_frac ⟨rfl, rfl, rfl, by decide +kernel, rfl, by decide +kernel, by decide +kernel⟩ rfl rfl (fun _ _ _ _ _ _ us hl => match us, hl with | [_, _], _ => rfl) fun cdv A outer s H E f hr => bd_law_frac h cdv A outer s H E f hr
theorem bd_law_sum (h : Hd P w K mg base T) (cdv : Value) (A : Around) (outer : List Env) (s : Shared) (H : Hp) (E : XK) (f : Addr) : Room 2 (A.deeper (envOfC "_law_sum" (defScope (top 64)) s.heap.objs.size f cdv)) → PSs (cxOf (L2.CX P w) P w K mg base ["one", "other", "times_v"] "_law_sum" (defScope (top 64)) f cdv A outer s H E) (defBody (top 64)) (tS K T E law_sumB) := fun hr => by
  have nd : (["one", "other", "times_v"] : List Str).Nodup := by decide +kernel
  exact s_cons (s_ret (x_call (fd_law_frac h) hr pass_body (a_cons (x_add (x_mul (x_idx (x_var 0) (x_int)) (x_idx (x_var 1) (x_int))) (x_mul (x_mul (x_var 2) (x_idx (x_var 1) (x_int))) (x_idx (x_var 0) (x_int)))) (a_cons (x_mul (x_idx (x_var 0) (x_int)) (x_idx (x_var 1) (x_int))) (a_nil))))) (s_nil)
theorem fd_law_sum (h : Hd P w K mg base T) : Fd P w K mg base T 3 "_law_sum" 3 law_sumF := fd_at (N := ["one", "other", "times_v"]) (ps := ["one", "other", "times_v"]) h.f_law_sum ⟨rfl, rfl, rfl, by decide +kernel, rfl, by decide +kernel, by decide +kernel⟩ rfl rfl (fun _ _ _ _ _ _ us hl => match us, hl with | [_, _, _], _ => rfl) fun cdv A outer s H E f hr => bd_law_sum h cdv A outer s H E f hr
theorem bd_law_is_at_most (h : Hd P w K mg base T) (cdv : Value) (A : Around) (outer : List Env) (s : Shared) (H : Hp) (E : XK) (f : Addr) : Room 0 (A.deeper (envOfC "_law_is_at_most" (defScope (top 65)) s.heap.objs.size f cdv)) → PSs (cxOf (L2.CX P w) P w K mg base ["one", "other"] "_law_is_at_most" (defScope (top 65)) f cdv A outer s H E) (defBody (top 65)) (tS K T E law_is_at_mostB) := fun hr => by
  have nd : (["one", "other"] : List Str).Nodup := by decide +kernel
  exact s_cons (s_ret (x_cmp (c_le) (x_mul (x_idx (x_var 0) (x_int)) (x_idx (x_var 1) (x_int))) (x_mul (x_idx (x_var 1) (x_int)) (x_idx (x_var 0) (x_int))))) (s_nil)
theorem fd_law_is_at_most (h : Hd P w K mg base T) : Fd P w K mg base T 1 "_law_is_at_most" 2 law_is_at_mostF := fd_at (N := ["one", "other"]) (ps := ["one", "other"]) h.f_law_is_at_most ⟨rfl, rfl, rfl, by decide +kernel, rfl, by decide +kernel, by decide +kernel⟩ rfl rfl (fun _ _ _ _ _ _ us hl => match us, hl with | [_, _], _ => rfl) fun cdv A outer s H E f hr => bd_law_is_at_most h cdv A outer s H E f hr
theorem bd_law_worth (h : Hd P w K mg base T) (cdv : Value) (A : Around) (outer : List Env) (s : Shared) (H : Hp) (E : XK) (f : Addr) : Room 3 (A.deeper (envOfC "_law_worth" (defScope (top 66)) s.heap.objs.size f cdv)) → PSs (cxOf (L2.CX P w) P w K mg base ["ray", "point", "total", "price", "part"] "_law_worth" (defScope (top 66)) f cdv A outer s H E) (defBody (top 66)) (tS K T E law_worthB) := fun hr => by
  have nd : (["ray", "point", "total", "price", "part"] : List Str).Nodup := by decide +kernel
  exact s_cons (s_set 2 nd (x_tup (a_cons (x_int) (a_cons (x_int) (a_nil))))) (s_cons (s_for (t := (.tp [3, 4])) own_body rfl (i_zip h.zip (x_var 0) (x_var 1)) (pg_tup rfl (pgs_cons (pg_name (i := 3) nd rfl (by first | exact Or.inl rfl | exact Or.inr rfl)) (pgs_cons (pg_name (i := 4) nd rfl (by first | exact Or.inl rfl | exact Or.inr rfl)) pgs_nil))) (s_cons (s_set 2 nd (x_call (fd_law_sum h) hr pass_body (a_cons (x_var 2) (a_cons (x_var 4) (a_cons (x_var 3) (a_nil)))))) (s_nil))) (s_cons (s_ret (x_var 2)) (s_nil)))
theorem fd_law_worth (h : Hd P w K mg base T) : Fd P w K mg base T 4 "_law_worth" 2 law_worthF := fd_at (N := ["ray", "point", "total", "price", "part"]) (ps := ["ray", "point"]) h.f_law_worth ⟨rfl, rfl, rfl, by decide +kernel, rfl, by decide +kernel, by decide +kernel⟩ rfl rfl (fun _ _ _ _ _ _ us hl => match us, hl with | [_, _], _ => rfl) fun cdv A outer s H E f hr => bd_law_worth h cdv A outer s H E f hr
theorem bd_law_points (h : Hd P w K mg base T) (cdv : Value) (A : Around) (outer : List Env) (s : Shared) (H : Hp) (E : XK) (f : Addr) : Room 2 (A.deeper (envOfC "_law_points" (defScope (top 67)) s.heap.objs.size f cdv)) → PSs (cxOf (L2.CX P w) P w K mg base ["pen", "stores", "found", "turn", "store"] "_law_points" (defScope (top 67)) f cdv A outer s H E) (defBody (top 67)) (tS K T E law_pointsB) := fun hr => by
  have nd : (["pen", "stores", "found", "turn", "store"] : List Str).Nodup := by decide +kernel
  exact s_cons (s_new 2 nd) (s_cons (s_for (t := (.nm 3)) own_body rfl (i_range h.range (x_add (x_int) (x_call (fd_law_draw h) hr pass_body (a_cons (x_var 0) (a_cons (x_int) (a_nil)))))) (pg_name (i := 3) nd rfl (by first | exact Or.inl rfl | exact Or.inr rfl)) (s_cons (s_app 2 (x_tuple h.tuple (x_comp (own := [("store", 4)]) (t := (.nm 4)) rfl nd (i_range h.range (x_var 1)) (blkOk_by (by kernel_rfl)) (by decide) (fun _ _ _ _ _ => (pg_name (i := 4) nd rfl (by first | exact Or.inl rfl | exact Or.inr rfl))) (fun _ _ _ _ _ => t_yes) (fun _ _ _ _ _ => x_call (fd_law_frac h) hr passL (a_cons (x_sub (x_call (fd_law_draw h) hr passL (a_cons (x_var 0) (a_cons (x_int) (a_nil)))) (x_int)) (a_cons (x_add (x_int) (x_call (fd_law_draw h) hr passL (a_cons (x_var 0) (a_cons (x_int) (a_nil))))) (a_nil))))))) (s_nil))) (s_cons (s_retM 2) (s_nil)))
theorem fd_law_points (h : Hd P w K mg base T) : Fd P w K mg base T 3 "_law_points" 2 law_pointsF := fd_at (N := ["pen", "stores", "found", "turn", "store"]) (ps := ["pen", "stores"]) h.f_law_points ⟨rfl, rfl, rfl, by decide +kernel, rfl, by decide +kernel, by decide +kernel⟩ rfl rfl (fun _ _ _ _ _ _ us hl => match us, hl with | [_, _], _ => rfl) fun cdv A outer s H E f hr => bd_law_points h cdv A outer s H E f hr
theorem bd_law_great (h : Hd P w K mg base T) (cdv : Value) (A : Around) (outer : List Env) (s : Shared) (H : Hp) (E : XK) (f : Addr) : Room 4 (A.deeper (envOfC "_law_great" (defScope (top 68)) s.heap.objs.size f cdv)) → PSs (cxOf (L2.CX P w) P w K mg base ["ray", "some", "best", "point", "worth"] "_law_great" (defScope (top 68)) f cdv A outer s H E) (defBody (top 68)) (tS K T E law_greatB) := fun hr => by
  have nd : (["ray", "some", "best", "point", "worth"] : List Str).Nodup := by decide +kernel
  exact s_cons (s_set 2 nd (x_call (fd_law_worth h) hr pass_body (a_cons (x_var 0) (a_cons (x_idx (x_var 1) (x_int)) (a_nil))))) (s_cons (s_for (t := (.nm 3)) own_body rfl (i_seq (x_from (x_var 1))) (pg_name (i := 3) nd rfl (by first | exact Or.inl rfl | exact Or.inr rfl)) (s_cons (s_set 4 nd (x_call (fd_law_worth h) hr pass_body (a_cons (x_var 0) (a_cons (x_var 3) (a_nil))))) (s_cons (s_set 2 nd (x_ife (t_not (t_tru (x_call (fd_law_is_at_most h) hr pass_body (a_cons (x_var 4) (a_cons (x_var 2) (a_nil)))))) (x_var 4) (x_var 2))) (s_nil)))) (s_cons (s_ret (x_var 2)) (s_nil)))
theorem fd_law_great (h : Hd P w K mg base T) : Fd P w K mg base T 5 "_law_great" 2 law_greatF := fd_at (N := ["ray", "some", "best", "point", "worth"]) (ps := ["ray", "some"]) h.f_law_great ⟨rfl, rfl, rfl, by decide +kernel, rfl, by decide +kernel, by decide +kernel⟩ rfl rfl (fun _ _ _ _ _ _ us hl => match us, hl with | [_, _], _ => rfl) fun cdv A outer s H E f hr => bd_law_great h cdv A outer s H E f hr
theorem bd_law_corner (h : Hd P w K mg base T) (cdv : Value) (A : Around) (outer : List Env) (s : Shared) (H : Hp) (E : XK) (f : Addr) : Room 3 (A.deeper (envOfC "_law_corner" (defScope (top 69)) s.heap.objs.size f cdv)) → PSs (cxOf (L2.CX P w) P w K mg base ["rays", "row", "at", "one", "other", "first", "last", "whole", "x", "y"] "_law_corner" (defScope (top 69)) f cdv A outer s H E) (defBody (top 69)) (tS K T E law_cornerB) := fun hr => by
  have nd : (["rays", "row", "at", "one", "other", "first", "last", "whole", "x", "y"] : List Str).Nodup := by decide +kernel
  exact s_cons (s_par2 3 4 rfl nd (by decide) (x_idx (x_var 0) (x_var 2)) (x_idx (x_var 0) (x_mod (x_toint h.int (x_add (x_var 2) (x_int))) (x_len h.len (x_var 0))))) (s_cons (s_par3 5 6 7 rfl nd (by decide) (by decide) (by decide) (x_idx (x_var 1) (x_var 2)) (x_idx (x_var 1) (x_mod (x_toint h.int (x_add (x_var 2) (x_int))) (x_len h.len (x_var 0)))) (x_call (fd_law_turn h) hr pass_body (a_cons (x_var 3) (a_cons (x_var 4) (a_nil))))) (s_cons (s_set 8 nd (x_call (fd_law_sum h) hr pass_body (a_cons (x_call (fd_law_sum h) hr pass_body (a_cons (x_tup (a_cons (x_int) (a_cons (x_int) (a_nil)))) (a_cons (x_var 5) (a_cons (x_idx (x_var 4) (x_int)) (a_nil))))) (a_cons (x_var 6) (a_cons (x_neg (x_idx (x_var 3) (x_int))) (a_nil)))))) (s_cons (s_set 9 nd (x_call (fd_law_sum h) hr pass_body (a_cons (x_call (fd_law_sum h) hr pass_body (a_cons (x_tup (a_cons (x_int) (a_cons (x_int) (a_nil)))) (a_cons (x_var 6) (a_cons (x_idx (x_var 3) (x_int)) (a_nil))))) (a_cons (x_var 5) (a_cons (x_neg (x_idx (x_var 4) (x_int))) (a_nil)))))) (s_cons (s_ret (x_tup (a_cons (x_call (fd_law_frac h) hr pass_body (a_cons (x_idx (x_var 8) (x_int)) (a_cons (x_mul (x_idx (x_var 8) (x_int)) (x_var 7)) (a_nil)))) (a_cons (x_call (fd_law_frac h) hr pass_body (a_cons (x_idx (x_var 9) (x_int)) (a_cons (x_mul (x_idx (x_var 9) (x_int)) (x_var 7)) (a_nil)))) (a_nil))))) (s_nil)))))
theorem fd_law_corner (h : Hd P w K mg base T) : Fd P w K mg base T 4 "_law_corner" 3 law_cornerF := fd_at (N := ["rays", "row", "at", "one", "other", "first", "last", "whole", "x", "y"]) (ps := ["rays", "row", "at"]) h.f_law_corner ⟨rfl, rfl, rfl, by decide +kernel, rfl, by decide +kernel, by decide +kernel⟩ rfl rfl (fun _ _ _ _ _ _ us hl => match us, hl with | [_, _, _], _ => rfl) fun cdv A outer s H E f hr => bd_law_corner h cdv A outer s H E f hr
theorem bd_law_is_within (h : Hd P w K mg base T) (cdv : Value) (A : Around) (outer : List Env) (s : Shared) (H : Hp) (E : XK) (f : Addr) : Room 4 (A.deeper (envOfC "_law_is_within" (defScope (top 70)) s.heap.objs.size f cdv)) → PSs (cxOf (L2.CX P w) P w K mg base ["rays", "row", "point", "at", "ray"] "_law_is_within" (defScope (top 70)) f cdv A outer s H E) (defBody (top 70)) (tS K T E law_is_withinB) := fun hr => by
  have nd : (["rays", "row", "point", "at", "ray"] : List Str).Nodup := by decide +kernel
  exact s_cons (s_ret (x_cmp (c_eq (Room.units hr)) (x_comp (own := [("at", 3), ("ray", 4)]) (t := (.tp [3, 4])) rfl nd (i_enum h.enumerate (x_var 0)) (blkOk_by (by kernel_rfl)) (by decide) (fun _ _ _ _ _ => (pg_tup rfl (pgs_cons (pg_name (i := 3) nd rfl (by first | exact Or.inl rfl | exact Or.inr rfl)) (pgs_cons (pg_name (i := 4) nd rfl (by first | exact Or.inl rfl | exact Or.inr rfl)) pgs_nil)))) (fun _ _ _ _ _ => pts_one (t_not (t_tru (x_call (fd_law_is_at_most h) hr passL (a_cons (x_call (fd_law_worth h) hr passL (a_cons (x_var 4) (a_cons (x_var 2) (a_nil)))) (a_cons (x_idx (x_var 1) (x_var 3)) (a_nil))))))) (fun _ _ _ _ _ => x_var 3)) (x_lst (a_nil)))) (s_nil)
theorem fd_law_is_within (h : Hd P w K mg base T) : Fd P w K mg base T 5 "_law_is_within" 3 law_is_withinF := fd_at (N := ["rays", "row", "point", "at", "ray"]) (ps := ["rays", "row", "point"]) h.f_law_is_within ⟨rfl, rfl, rfl, by decide +kernel, rfl, by decide +kernel, by decide +kernel⟩ rfl rfl (fun _ _ _ _ _ _ us hl => match us, hl with | [_, _, _], _ => rfl) fun cdv A outer s H E f hr => bd_law_is_within h cdv A outer s H E f hr
theorem bd_law_one_right (h : Hd P w K mg base T) (cdv : Value) (A : Around) (outer : List Env) (s : Shared) (H : Hp) (E : XK) (f : Addr) : A.guards = some [] → Room 14 (A.deeper (envOfC "_law_one_right" (defScope (top 71)) s.heap.objs.size f cdv)) → PSs (cxOf (L2.CX P w) P w K mg base ["pen", "value", "guess", "some", "rays", "row", "due", "at", "wide", "mean", "store", "own", "total", "point", "low", "high", "part", "is_so"] "_law_one_right" (defScope (top 71)) f cdv A outer s H E) (defBody (top 71)) (tS K T E law_one_rightB) := fun hgd hr => by
  have nd : (["pen", "value", "guess", "some", "rays", "row", "due", "at", "wide", "mean", "store", "own", "total", "point", "low", "high", "part", "is_so"] : List Str).Nodup := by decide +kernel
  exact s_cons (s_asg (t := (.tp [4, 5])) (pg_tup rfl (pgs_cons (pg_name (i := 4) nd rfl (by first | exact Or.inl rfl | exact Or.inr rfl)) (pgs_cons (pg_name (i := 5) nd rfl (by first | exact Or.inl rfl | exact Or.inr rfl)) pgs_nil))) (x_tup (a_cons (x_fld h.fld2 (x_var 1)) (a_cons (x_idx (x_fld h.fld3 (x_var 1)) (x_var 2)) (a_nil))))) (s_cons (s_set 6 nd (x_ife (t_cmp (c_eq (Room.units hr)) (x_len h.len (x_idx (x_var 4) (x_int))) (x_int)) (x_lst (a_cons (x_tup (a_cons (x_tup (a_cons (x_neg (x_idx (x_idx (x_var 5) (x_int)) (x_int))) (a_cons (x_idx (x_idx (x_var 5) (x_int)) (x_int)) (a_nil)))) (a_nil))) (a_cons (x_tup (a_cons (x_idx (x_var 5) (x_int)) (a_nil))) (a_nil)))) (x_comp (own := [("at", 7)]) (t := (.nm 7)) rfl nd (i_range h.range (x_len h.len (x_var 4))) (blkOk_by (by kernel_rfl)) (by decide) (fun _ _ _ _ _ => (pg_name (i := 7) nd rfl (by first | exact Or.inl rfl | exact Or.inr rfl))) (fun _ _ _ _ _ => t_yes) (fun _ _ _ _ _ => x_call (fd_law_corner h) hr passL (a_cons (x_var 4) (a_cons (x_var 5) (a_cons (x_var 7) (a_nil)))))))) (s_cons (s_if ((w_or (t_cmp (c_ne (Room.units hr)) (x_repr hgd (Room.units hr) h.repr (x_call (fd_corners h) hr pass_body (a_cons (x_var 1) (a_cons (x_var 2) (a_nil))))) (x_repr hgd (Room.units hr) h.repr (x_tuple h.tuple (x_var 6)))) (w_or1 (t_cmp (c_ne (Room.units hr)) (x_callK (fdK_corners h) hr pass_body (k_cons (x_var 2) (k_cons (x_var 1) (k_nil)))) (x_tuple h.tuple (x_var 6))))).pt) (s_cons (s_ret (x_bl)) (s_nil)) (s_nil)) (s_cons (s_par2n 8 9 rfl nd (by decide)) (s_cons (s_for (t := (.nm 10)) own_body rfl (i_range h.range (x_len h.len (x_idx (x_var 4) (x_int)))) (pg_name (i := 10) nd rfl (by first | exact Or.inl rfl | exact Or.inr rfl)) (s_cons (s_par2 11 12 rfl nd (by decide) (x_comp (own := [("point", 13)]) (t := (.nm 13)) rfl nd (i_seq (x_var 6)) (blkOk_by (by kernel_rfl)) (by decide) (fun _ _ _ _ _ => (pg_name (i := 13) nd rfl (by first | exact Or.inl rfl | exact Or.inr rfl))) (fun _ _ _ _ _ => t_yes) (fun _ _ _ _ _ => x_idx (x_var 13) (x_var 10))) (x_tup (a_cons (x_int) (a_cons (x_int) (a_nil))))) (s_cons (s_par2 14 15 rfl nd (by decide) (x_idx (x_var 11) (x_int)) (x_idx (x_var 11) (x_int))) (s_cons (s_for (t := (.nm 16)) own_body rfl (i_seq (x_var 11)) (pg_name (i := 16) nd rfl (by first | exact Or.inl rfl | exact Or.inr rfl)) (s_cons (s_par3 14 15 12 rfl nd (by decide) (by decide) (by decide) (x_ife (t_tru (x_call (fd_law_is_at_most h) hr pass_body (a_cons (x_var 16) (a_cons (x_var 14) (a_nil))))) (x_var 16) (x_var 14)) (x_ife (t_tru (x_call (fd_law_is_at_most h) hr pass_body (a_cons (x_var 15) (a_cons (x_var 16) (a_nil))))) (x_var 16) (x_var 15)) (x_call (fd_law_sum h) hr pass_body (a_cons (x_var 12) (a_cons (x_var 16) (a_cons (x_int) (a_nil)))))) (s_nil))) (s_cons (s_app 8 (x_tup (a_cons (x_var 14) (a_cons (x_var 15) (a_nil))))) (s_cons (s_app 9 (x_call (fd_law_frac h) hr pass_body (a_cons (x_idx (x_var 12) (x_int)) (a_cons (x_mul (x_idx (x_var 12) (x_int)) (x_len h.len (x_var 11))) (a_nil))))) (s_nil))))))) (s_cons (s_if (t_cmp (c_ne (Room.units hr)) (x_repr hgd (Room.units hr) h.repr (x_lst (a_cons (x_call (fd_widths h) hr pass_body (a_cons (x_var 1) (a_cons (x_var 2) (a_nil)))) (a_cons (x_call (fd_middle h) hr pass_body (a_cons (x_var 1) (a_cons (x_var 2) (a_nil)))) (a_nil))))) (x_repr hgd (Room.units hr) h.repr (x_lst (a_cons (x_tupM 8 h.tuple) (a_cons (x_tupM 9 h.tuple) (a_nil)))))) (s_cons (s_ret (x_bl)) (s_nil)) (s_nil)) (s_cons (s_for (t := (.nm 13)) own_body rfl (i_seq (x_add (x_add (x_add (x_var 3) (x_var 6)) (x_lst (a_cons (x_tupM 9 h.tuple) (a_nil)))) (x_call (fd_law_points h) hr pass_body (a_cons (x_var 0) (a_cons (x_len h.len (x_idx (x_var 4) (x_int))) (a_nil)))))) (pg_name (i := 13) nd rfl (by first | exact Or.inl rfl | exact Or.inr rfl)) (s_cons (s_set 17 nd (x_call (fd_law_is_within h) hr pass_body (a_cons (x_var 4) (a_cons (x_var 5) (a_cons (x_var 13) (a_nil)))))) (s_cons (s_if (t_cmp (c_ne (Room.units hr)) (x_repr hgd (Room.units hr) h.repr (x_lst (a_cons (x_call (fd_is_in h) hr pass_body (a_cons (x_var 1) (a_cons (x_var 2) (a_cons (x_var 13) (a_nil))))) (a_cons (x_callK (fdK_is_in h) hr pass_body (k_cons (x_list h.list (x_var 13)) (k_cons (x_var 2) (k_cons (x_var 1) (k_nil))))) (a_nil))))) (x_repr hgd (Room.units hr) h.repr (x_lst (a_cons (x_var 17) (a_cons (x_var 17) (a_nil)))))) (s_cons (s_ret (x_bl)) (s_nil)) (s_nil)) (s_nil)))) (s_cons (s_ret (x_cmp (c_eq (Room.units hr)) (x_comp (own := [("point", 13)]) (t := (.nm 13)) rfl nd (i_seq (x_add (x_add (x_var 3) (x_var 6)) (x_lst (a_cons (x_tupM 9 h.tuple) (a_nil))))) (blkOk_by (by kernel_rfl)) (by decide) (fun _ _ _ _ _ => (pg_name (i := 13) nd rfl (by first | exact Or.inl rfl | exact Or.inr rfl))) (fun _ _ _ _ _ => pts_one (t_not (t_tru (x_call (fd_law_is_within h) hr passL (a_cons (x_var 4) (a_cons (x_var 5) (a_cons (x_var 13) (a_nil)))))))) (fun _ _ _ _ _ => x_var 13)) (x_lst (a_nil)))) (s_nil))))))))
theorem fd_law_one_right (h : Hd P w K mg base T) : FdG P w K mg base T 15 "_law_one_right" 4 law_one_rightF := fdG_at (N := ["pen", "value", "guess", "some", "rays", "row", "due", "at", "wide", "mean", "store", "own", "total", "point", "low", "high", "part", "is_so"]) (ps := ["pen", "value", "guess", "some"]) h.f_law_one_right ⟨rfl, rfl, rfl, by decide +kernel, rfl, by decide +kernel, by decide +kernel⟩ rfl rfl (fun _ _ _ _ _ _ us hl => match us, hl with | [_, _, _, _], _ => rfl) fun cdv A outer s H E f hgd hr => bd_law_one_right h cdv A outer s H E f hgd hr
end
end Rh
set_option Elab.async false
set_option linter.all false
set_option maxRecDepth 100000
set_option maxHeartbeats 4000000
/-! Rh: the derivations, printed by gen.py. -/
namespace Rh
open PySem L2 PySem.Spec PyProof.Rows
section
variable {P : Program} {w : World} {K : PySem.W.Frag} {mg : Str → Option Value} {base : Heap} {T : Tx}
theorem bs0_law_refused_right (h : Hd P w K mg base T) {c P1 : Addr} (TB : LamX.TabB base mg c P1) (hmT : (P1, lamQ "_law_refused_right" (top 72)) ∈ T.tb) (hu : ∀ q ∈ T.tb, q.1 = P1 → q.2 = lamQ "_law_refused_right" (top 72)) {A : Around} {outer : List Env} {s : Shared} {H : Hp} {E : XK} {f : Addr} (hr : Room 17 (A.deeper (envOfC "_law_refused_right" (defScope (top 72)) s.heap.objs.size f (.ref c)))) : PS (cxOf (L2.CX P w) P w K mg base ["pen", "value", "rays", "many", "stores", "bad", "none", "odd", "far", "heard"] "_law_refused_right" (defScope (top 72)) f (.ref c) A outer s H E) ((defBody (top 72)).getD 0 (.Pass ⟨0, 0, 0, 0⟩)) (tS K T E (spar3 2 3 4 (xfld (xvar 1) 1 2) (xbui .len (acons (xfld (xvar 1) 1 3) anil)) (xbui .len (acons (xidx (xfld (xvar 1) 1 2) (xcst (.int 0))) anil)))) := by
  have nd : (["pen", "value", "rays", "many", "stores", "bad", "none", "odd", "far", "heard"] : List Str).Nodup := by decide +kernel
  exact s_par3 2 3 4 rfl nd (by decide) (by decide) (by decide) (x_fld h.fld2 (x_var 1)) (x_len h.len (x_fld h.fld3 (x_var 1))) (x_len h.len (x_idx (x_fld h.fld2 (x_var 1)) (x_int)))
theorem bs1_law_refused_right (h : Hd P w K mg base T) {c P1 : Addr} (TB : LamX.TabB base mg c P1) (hmT : (P1, lamQ "_law_refused_right" (top 72)) ∈ T.tb) (hu : ∀ q ∈ T.tb, q.1 = P1 → q.2 = lamQ "_law_refused_right" (top 72)) {A : Around} {outer : List Env} {s : Shared} {H : Hp} {E : XK} {f : Addr} (hr : Room 17 (A.deeper (envOfC "_law_refused_right" (defScope (top 72)) s.heap.objs.size f (.ref c)))) : PS (cxOf (L2.CX P w) P w K mg base ["pen", "value", "rays", "many", "stores", "bad", "none", "odd", "far", "heard"] "_law_refused_right" (defScope (top 72)) f (.ref c) A outer s H E) ((defBody (top 72)).getD 1 (.Pass ⟨0, 0, 0, 0⟩)) (tS K T E (sasg (.nm 5) (xlst (acons (xcst .non) (acons (xcst (.int 5)) (acons (xfld (xvar 1) 1 1) (acons (xpaper (fixedF 8) (xcst (.str "lots")) (xfld (xvar 1) 1 2) (xfld (xvar 1) 1 3)) (acons (xlots (fixedF 8) (xvar 2) (xtup (anil))) (acons (xlots (fixedF 8) (xtup (anil)) (xtup (anil))) (acons (xlots (fixedF 8) (xvar 2) (xcst .non)) (acons (xlots (fixedF 8) (xvar 2) (xlst (acons (xlst (acons (xtup (acons (xcst (.int 0)) (acons (xcst (.int 1)) (anil)))) (anil))) (anil)))) (acons (xlots (fixedF 8) (xlst (acons (xtup (acons (xcst (.int 1)) (acons (xcst (.int 0)) (acons (xcst (.int 0)) (anil))))) (anil))) (xlst (acons (xlst (acons (xtup (acons (xcst (.int 0)) (acons (xcst (.int 1)) (anil)))) (anil))) (anil)))) (acons (xlots (fixedF 8) (xvar 2) (xlst (acons (xbin .mul (xlst (acons (xtup (acons (xneg (xcst (.int 5))) (acons (xcst (.int 1)) (anil)))) (anil))) (xbui .len (acons (xvar 2) anil))) (anil)))) (anil)))))))))))))) := by
  have nd : (["pen", "value", "rays", "many", "stores", "bad", "none", "odd", "far", "heard"] : List Str).Nodup := by decide +kernel
  exact s_set 5 nd (x_lst (a_cons (x_non) (a_cons (x_int) (a_cons (x_fld h.fld1 (x_var 1)) (a_cons (x_paperH h hr (by decide) pass_body (x_str) (x_fld h.fld2 (x_var 1)) (x_fld h.fld3 (x_var 1))) (a_cons (x_lotsH h hr (by decide) pass_body (x_var 2) (x_tup (a_nil))) (a_cons (x_lotsH h hr (by decide) pass_body (x_tup (a_nil)) (x_tup (a_nil))) (a_cons (x_lotsH h hr (by decide) pass_body (x_var 2) (x_non)) (a_cons (x_lotsH h hr (by decide) pass_body (x_var 2) (x_lst (a_cons (x_lst (a_cons (x_tup (a_cons (x_int) (a_cons (x_int) (a_nil)))) (a_nil))) (a_nil)))) (a_cons (x_lotsH h hr (by decide) pass_body (x_lst (a_cons (x_tup (a_cons (x_int) (a_cons (x_int) (a_cons (x_int) (a_nil))))) (a_nil))) (x_lst (a_cons (x_lst (a_cons (x_tup (a_cons (x_int) (a_cons (x_int) (a_nil)))) (a_nil))) (a_nil)))) (a_cons (x_lotsH h hr (by decide) pass_body (x_var 2) (x_lst (a_cons (x_mul (x_lst (a_cons (x_tup (a_cons (x_neg (x_int)) (a_cons (x_int) (a_nil)))) (a_nil))) (x_len h.len (x_var 2))) (a_nil)))) (a_nil))))))))))))
theorem bs2_law_refused_right (h : Hd P w K mg base T) {c P1 : Addr} (TB : LamX.TabB base mg c P1) (hmT : (P1, lamQ "_law_refused_right" (top 72)) ∈ T.tb) (hu : ∀ q ∈ T.tb, q.1 = P1 → q.2 = lamQ "_law_refused_right" (top 72)) {A : Around} {outer : List Env} {s : Shared} {H : Hp} {E : XK} {f : Addr} (hr : Room 17 (A.deeper (envOfC "_law_refused_right" (defScope (top 72)) s.heap.objs.size f (.ref c)))) : PS (cxOf (L2.CX P w) P w K mg base ["pen", "value", "rays", "many", "stores", "bad", "none", "odd", "far", "heard"] "_law_refused_right" (defScope (top 72)) f (.ref c) A outer s H E) ((defBody (top 72)).getD 2 (.Pass ⟨0, 0, 0, 0⟩)) (tS K T E (sasg (.tp [6, 7]) (xtup (acons (xcall law_pickF (acons (xvar 0) (acons (xbin .add (xvar 5) (xlst (acons (xlots (fixedF 8) (xrev (xvar 2)) (xfld (xvar 1) 1 3)) (acons (xlots (fixedF 8) (xvar 2) (xlst (acons (xbin .mul (xlst (acons (xtup (acons (xcst (.int 0)) (acons (xcst (.int 2)) (anil)))) (anil))) (xbui .len (acons (xvar 2) anil))) (anil)))) (acons (xlots (fixedF 8) (xvar 2) (xlst (acons (xbin .mul (xlst (acons (xtup (acons (xcst (.int 0)) (acons (xcst (.int 1)) (anil)))) (anil))) (xbui .len (acons (xvar 2) anil))) (acons (xcst .non) (anil))))) (anil)))))) (anil)))) (acons (xcall law_pickF (acons (xvar 0) (acons (xlst (acons (xcst .non) (acons (xneg (xcst (.int 1))) (acons (xvar 3) (acons (xcst (.str "0")) (acons (xcst (.bl true)) (anil))))))) (anil)))) (anil)))))) := by
  have nd : (["pen", "value", "rays", "many", "stores", "bad", "none", "odd", "far", "heard"] : List Str).Nodup := by decide +kernel
  exact s_asg (t := (.tp [6, 7])) (pg_tup rfl (pgs_cons (pg_name (i := 6) nd rfl (by first | exact Or.inl rfl | exact Or.inr rfl)) (pgs_cons (pg_name (i := 7) nd rfl (by first | exact Or.inl rfl | exact Or.inr rfl)) pgs_nil))) (x_tup (a_cons (x_call (fd_law_pick h) hr pass_body (a_cons (x_var 0) (a_cons (x_add (x_var 5) (x_lst (a_cons (x_lotsH h hr (by decide) pass_body (x_rev (x_var 2)) (x_fld h.fld3 (x_var 1))) (a_cons (x_lotsH h hr (by decide) pass_body (x_var 2) (x_lst (a_cons (x_mul (x_lst (a_cons (x_tup (a_cons (x_int) (a_cons (x_int) (a_nil)))) (a_nil))) (x_len h.len (x_var 2))) (a_nil)))) (a_cons (x_lotsH h hr (by decide) pass_body (x_var 2) (x_lst (a_cons (x_mul (x_lst (a_cons (x_tup (a_cons (x_int) (a_cons (x_int) (a_nil)))) (a_nil))) (x_len h.len (x_var 2))) (a_cons (x_non) (a_nil))))) (a_nil)))))) (a_nil)))) (a_cons (x_call (fd_law_pick h) hr pass_body (a_cons (x_var 0) (a_cons (x_lst (a_cons (x_non) (a_cons (x_neg (x_int)) (a_cons (x_var 3) (a_cons (x_str) (a_cons (x_bl) (a_nil))))))) (a_nil)))) (a_nil))))
theorem bs3_law_refused_right (h : Hd P w K mg base T) {c P1 : Addr} (TB : LamX.TabB base mg c P1) (hmT : (P1, lamQ "_law_refused_right" (top 72)) ∈ T.tb) (hu : ∀ q ∈ T.tb, q.1 = P1 → q.2 = lamQ "_law_refused_right" (top 72)) {A : Around} {outer : List Env} {s : Shared} {H : Hp} {E : XK} {f : Addr} (hr : Room 17 (A.deeper (envOfC "_law_refused_right" (defScope (top 72)) s.heap.objs.size f (.ref c)))) : PS (cxOf (L2.CX P w) P w K mg base ["pen", "value", "rays", "many", "stores", "bad", "none", "odd", "far", "heard"] "_law_refused_right" (defScope (top 72)) f (.ref c) A outer s H E) ((defBody (top 72)).getD 3 (.Pass ⟨0, 0, 0, 0⟩)) (tS K T E (sasg (.nm 8) (xcall law_pickF (acons (xvar 0) (acons (xlst (acons (xcst .non) (acons (xcst (.int 5)) (acons (xbin .mul (xlst (acons (xtup (acons (xcst (.int 0)) (acons (xcst (.int 1)) (anil)))) (anil))) (xbin .add (xvar 4) (xcst (.int 1)))) (acons (xbin .mul (xlst (acons (xtup (acons (xcst (.int 2)) (acons (xcst (.int 4)) (anil)))) (anil))) (xvar 4)) (acons (xbin .mul (xlst (acons (xtup (acons (xcst (.int 1)) (acons (xcst (.int 0)) (anil)))) (anil))) (xvar 4)) (acons (xbin .mul (xlst (acons (xcst (.int 0)) (anil))) (xvar 4)) (acons (xbin .mul (xlst (acons (xtup (acons (xcst (.bl true)) (acons (xcst (.int 1)) (anil)))) (anil))) (xvar 4)) (acons (xbin .mul (xlst (acons (xtup (acons (xcst (.str "0")) (acons (xcst (.int 1)) (anil)))) (anil))) (xvar 4)) (acons (xdic) (anil))))))))))) (anil)))))) := by
  have nd : (["pen", "value", "rays", "many", "stores", "bad", "none", "odd", "far", "heard"] : List Str).Nodup := by decide +kernel
  exact s_set 8 nd (x_call (fd_law_pick h) hr pass_body (a_cons (x_var 0) (a_cons (x_lst (a_cons (x_non) (a_cons (x_int) (a_cons (x_mul (x_lst (a_cons (x_tup (a_cons (x_int) (a_cons (x_int) (a_nil)))) (a_nil))) (x_add (x_var 4) (x_int))) (a_cons (x_mul (x_lst (a_cons (x_tup (a_cons (x_int) (a_cons (x_int) (a_nil)))) (a_nil))) (x_var 4)) (a_cons (x_mul (x_lst (a_cons (x_tup (a_cons (x_int) (a_cons (x_int) (a_nil)))) (a_nil))) (x_var 4)) (a_cons (x_mul (x_lst (a_cons (x_int) (a_nil))) (x_var 4)) (a_cons (x_mul (x_lst (a_cons (x_tup (a_cons (x_bl) (a_cons (x_int) (a_nil)))) (a_nil))) (x_var 4)) (a_cons (x_mul (x_lst (a_cons (x_tup (a_cons (x_str) (a_cons (x_int) (a_nil)))) (a_nil))) (x_var 4)) (a_cons (x_dic) (a_nil))))))))))) (a_nil))))
theorem bs4_law_refused_right (h : Hd P w K mg base T) {c P1 : Addr} (TB : LamX.TabB base mg c P1) (hmT : (P1, lamQ "_law_refused_right" (top 72)) ∈ T.tb) (hu : ∀ q ∈ T.tb, q.1 = P1 → q.2 = lamQ "_law_refused_right" (top 72)) {A : Around} {outer : List Env} {s : Shared} {H : Hp} {E : XK} {f : Addr} (hr : Room 17 (A.deeper (envOfC "_law_refused_right" (defScope (top 72)) s.heap.objs.size f (.ref c)))) : PS (cxOf (L2.CX P w) P w K mg base ["pen", "value", "rays", "many", "stores", "bad", "none", "odd", "far", "heard"] "_law_refused_right" (defScope (top 72)) f (.ref c) A outer s H E) ((defBody (top 72)).getD 4 (.Pass ⟨0, 0, 0, 0⟩)) (tS K T E (sasg (.nm 9) (xlst (acons (xheard (xcall is_inF (acons (xvar 6) (acons (xvar 7) (acons (xvar 8) (anil)))))) (acons (xheard (xcall cornersF (acons (xvar 6) (acons (xvar 7) (anil))))) (acons (xheard (xcall widthsF (acons (xvar 6) (acons (xvar 7) (anil))))) (anil))))))) := by
  have nd : (["pen", "value", "rays", "many", "stores", "bad", "none", "odd", "far", "heard"] : List Str).Nodup := by decide +kernel
  exact s_set 9 nd (x_lst (a_cons (x_heardH 13 h TB rfl hmT hu hr (by decide) (RhL.lamP_by (by kernel_rfl)) (.no rfl rfl rfl) (fun _ _ _ _ _ _ _ _ H2 fs2 h1 _ _ => RhL.bind_no (H := H2) (fs := fs2) h1) (fun _ _ _ _ _ _ _ hr => x_call (fd_is_in h) hr pass_lam (a_cons (x_var 6) (a_cons (x_var 7) (a_cons (x_var 8) (a_nil)))))) (a_cons (x_heardH 13 h TB rfl hmT hu hr (by decide) (RhL.lamP_by (by kernel_rfl)) (.one rfl rfl rfl) (fun _ _ _ _ _ _ _ _ H2 fs2 _ h2 hD => RhL.bind_one (H := H2) (fs := fs2) (a := "a1") h2 hD rfl (by decide)) (fun _ _ _ _ _ _ _ hr => x_call (fd_corners h) hr pass_lam (a_cons (x_var 6) (a_cons (x_var 7) (a_nil))))) (a_cons (x_heardH 14 h TB rfl hmT hu hr (by decide) (RhL.lamP_by (by kernel_rfl)) (.one rfl rfl rfl) (fun _ _ _ _ _ _ _ _ H2 fs2 _ h2 hD => RhL.bind_one (H := H2) (fs := fs2) (a := "a2") h2 hD rfl (by decide)) (fun _ _ _ _ _ _ _ hr => x_call (fd_widths h) hr pass_lam (a_cons (x_var 6) (a_cons (x_var 7) (a_nil))))) (a_nil)))))
theorem bs5_law_refused_right (h : Hd P w K mg base T) {c P1 : Addr} (TB : LamX.TabB base mg c P1) (hmT : (P1, lamQ "_law_refused_right" (top 72)) ∈ T.tb) (hu : ∀ q ∈ T.tb, q.1 = P1 → q.2 = lamQ "_law_refused_right" (top 72)) {A : Around} {outer : List Env} {s : Shared} {H : Hp} {E : XK} {f : Addr} (hr : Room 17 (A.deeper (envOfC "_law_refused_right" (defScope (top 72)) s.heap.objs.size f (.ref c)))) : PS (cxOf (L2.CX P w) P w K mg base ["pen", "value", "rays", "many", "stores", "bad", "none", "odd", "far", "heard"] "_law_refused_right" (defScope (top 72)) f (.ref c) A outer s H E) ((defBody (top 72)).getD 5 (.Pass ⟨0, 0, 0, 0⟩)) (tS K T E (sasg (.nm 9) (xbin .add (xvar 9) (xlst (acons (xheard (xcall middleF (acons (xvar 6) (acons (xvar 7) (anil))))) (acons (xheard (xcall is_inF (acons (xvar 1) (acons (xvar 7) (acons (xvar 8) (anil)))))) (acons (xheard (xcall cornersF (acons (xvar 1) (acons (xvar 7) (anil))))) (anil)))))))) := by
  have nd : (["pen", "value", "rays", "many", "stores", "bad", "none", "odd", "far", "heard"] : List Str).Nodup := by decide +kernel
  exact s_set 9 nd (x_add (x_var 9) (x_lst (a_cons (x_heardH 14 h TB rfl hmT hu hr (by decide) (RhL.lamP_by (by kernel_rfl)) (.no rfl rfl rfl) (fun _ _ _ _ _ _ _ _ H2 fs2 h1 _ _ => RhL.bind_no (H := H2) (fs := fs2) h1) (fun _ _ _ _ _ _ _ hr => x_call (fd_middle h) hr pass_lam (a_cons (x_var 6) (a_cons (x_var 7) (a_nil))))) (a_cons (x_heardH 13 h TB rfl hmT hu hr (by decide) (RhL.lamP_by (by kernel_rfl)) (.one rfl rfl rfl) (fun _ _ _ _ _ _ _ _ H2 fs2 _ h2 hD => RhL.bind_one (H := H2) (fs := fs2) (a := "a1") h2 hD rfl (by decide)) (fun _ _ _ _ _ _ _ hr => x_call (fd_is_in h) hr pass_lam (a_cons (x_var 1) (a_cons (x_var 7) (a_cons (x_var 8) (a_nil)))))) (a_cons (x_heardH 13 h TB rfl hmT hu hr (by decide) (RhL.lamP_by (by kernel_rfl)) (.one rfl rfl rfl) (fun _ _ _ _ _ _ _ _ H2 fs2 _ h2 hD => RhL.bind_one (H := H2) (fs := fs2) (a := "a2") h2 hD rfl (by decide)) (fun _ _ _ _ _ _ _ hr => x_call (fd_corners h) hr pass_lam (a_cons (x_var 1) (a_cons (x_var 7) (a_nil))))) (a_nil))))))
theorem bs6_law_refused_right (h : Hd P w K mg base T) {c P1 : Addr} (TB : LamX.TabB base mg c P1) (hmT : (P1, lamQ "_law_refused_right" (top 72)) ∈ T.tb) (hu : ∀ q ∈ T.tb, q.1 = P1 → q.2 = lamQ "_law_refused_right" (top 72)) {A : Around} {outer : List Env} {s : Shared} {H : Hp} {E : XK} {f : Addr} (hr : Room 17 (A.deeper (envOfC "_law_refused_right" (defScope (top 72)) s.heap.objs.size f (.ref c)))) : PS (cxOf (L2.CX P w) P w K mg base ["pen", "value", "rays", "many", "stores", "bad", "none", "odd", "far", "heard"] "_law_refused_right" (defScope (top 72)) f (.ref c) A outer s H E) ((defBody (top 72)).getD 6 (.Pass ⟨0, 0, 0, 0⟩)) (tS K T E (sasg (.nm 9) (xbin .add (xvar 9) (xlst (acons (xheard (xcall widthsF (acons (xvar 1) (acons (xvar 7) (anil))))) (acons (xheard (xcall middleF (acons (xvar 1) (acons (xvar 7) (anil))))) (acons (xheard (xcall is_inF (acons (xvar 1) (acons (xcst (.int 0)) (acons (xvar 8) (anil)))))) (anil)))))))) := by
  have nd : (["pen", "value", "rays", "many", "stores", "bad", "none", "odd", "far", "heard"] : List Str).Nodup := by decide +kernel
  exact s_set 9 nd (x_add (x_var 9) (x_lst (a_cons (x_heardH 14 h TB rfl hmT hu hr (by decide) (RhL.lamP_by (by kernel_rfl)) (.no rfl rfl rfl) (fun _ _ _ _ _ _ _ _ H2 fs2 h1 _ _ => RhL.bind_no (H := H2) (fs := fs2) h1) (fun _ _ _ _ _ _ _ hr => x_call (fd_widths h) hr pass_lam (a_cons (x_var 1) (a_cons (x_var 7) (a_nil))))) (a_cons (x_heardH 14 h TB rfl hmT hu hr (by decide) (RhL.lamP_by (by kernel_rfl)) (.one rfl rfl rfl) (fun _ _ _ _ _ _ _ _ H2 fs2 _ h2 hD => RhL.bind_one (H := H2) (fs := fs2) (a := "a1") h2 hD rfl (by decide)) (fun _ _ _ _ _ _ _ hr => x_call (fd_middle h) hr pass_lam (a_cons (x_var 1) (a_cons (x_var 7) (a_nil))))) (a_cons (x_heardH 13 h TB rfl hmT hu hr (by decide) (RhL.lamP_by (by kernel_rfl)) (.one rfl rfl rfl) (fun _ _ _ _ _ _ _ _ H2 fs2 _ h2 hD => RhL.bind_one (H := H2) (fs := fs2) (a := "a2") h2 hD rfl (by decide)) (fun _ _ _ _ _ _ _ hr => x_call (fd_is_in h) hr pass_lam (a_cons (x_var 1) (a_cons (x_int) (a_cons (x_var 8) (a_nil)))))) (a_nil))))))
theorem bs7_law_refused_right (h : Hd P w K mg base T) {c P1 : Addr} (TB : LamX.TabB base mg c P1) (hmT : (P1, lamQ "_law_refused_right" (top 72)) ∈ T.tb) (hu : ∀ q ∈ T.tb, q.1 = P1 → q.2 = lamQ "_law_refused_right" (top 72)) {A : Around} {outer : List Env} {s : Shared} {H : Hp} {E : XK} {f : Addr} (hr : Room 17 (A.deeper (envOfC "_law_refused_right" (defScope (top 72)) s.heap.objs.size f (.ref c)))) : PS (cxOf (L2.CX P w) P w K mg base ["pen", "value", "rays", "many", "stores", "bad", "none", "odd", "far", "heard"] "_law_refused_right" (defScope (top 72)) f (.ref c) A outer s H E) ((defBody (top 72)).getD 7 (.Pass ⟨0, 0, 0, 0⟩)) (tS K T E (sret (xcmp .eq (xvar 9) (xbin .add (xbin .add (xbin .mul (xlst (acons (xtup (acons (xcst (.str "value")) (acons (xcst (.str "held")) (anil)))) (anil))) (xcst (.int 4))) (xbin .mul (xlst (acons (xtup (acons (xcst (.str "number")) (acons (xcst (.str "guess")) (anil)))) (anil))) (xcst (.int 4)))) (xlst (acons (xtup (acons (xcst (.str "value")) (acons (xcst (.str "point")) (anil)))) (anil))))))) := by
  have nd : (["pen", "value", "rays", "many", "stores", "bad", "none", "odd", "far", "heard"] : List Str).Nodup := by decide +kernel
  exact s_ret (x_cmp (c_eq (Room.units hr)) (x_var 9) (x_add (x_add (x_mul (x_lst (a_cons (x_tup (a_cons (x_str) (a_cons (x_str) (a_nil)))) (a_nil))) (x_int)) (x_mul (x_lst (a_cons (x_tup (a_cons (x_str) (a_cons (x_str) (a_nil)))) (a_nil))) (x_int))) (x_lst (a_cons (x_tup (a_cons (x_str) (a_cons (x_str) (a_nil)))) (a_nil)))))
theorem bd_law_refused_right (h : Hd P w K mg base T) {c P1 : Addr} (TB : LamX.TabB base mg c P1) (hmT : (P1, lamQ "_law_refused_right" (top 72)) ∈ T.tb) (hu : ∀ q ∈ T.tb, q.1 = P1 → q.2 = lamQ "_law_refused_right" (top 72)) (A : Around) (outer : List Env) (s : Shared) (H : Hp) (E : XK) (f : Addr) : Room 17 (A.deeper (envOfC "_law_refused_right" (defScope (top 72)) s.heap.objs.size f (.ref c))) → PSs (cxOf (L2.CX P w) P w K mg base ["pen", "value", "rays", "many", "stores", "bad", "none", "odd", "far", "heard"] "_law_refused_right" (defScope (top 72)) f (.ref c) A outer s H E) (defBody (top 72)) (tS K T E law_refused_rightB) := fun hr => by
  have nd : (["pen", "value", "rays", "many", "stores", "bad", "none", "odd", "far", "heard"] : List Str).Nodup := by decide +kernel
  exact s_cons (bs0_law_refused_right h TB hmT hu hr) (s_cons (bs1_law_refused_right h TB hmT hu hr) (s_cons (bs2_law_refused_right h TB hmT hu hr) (s_cons (bs3_law_refused_right h TB hmT hu hr) (s_cons (bs4_law_refused_right h TB hmT hu hr) (s_cons (bs5_law_refused_right h TB hmT hu hr) (s_cons (bs6_law_refused_right h TB hmT hu hr) (s_cons (bs7_law_refused_right h TB hmT hu hr) (s_nil))))))))
theorem fd_law_refused_right (h : Hd P w K mg base T) {c P1 : Addr} (hc : FnCAt K mg "_law_refused_right" (top 72) c) (TB : LamX.TabB base mg c P1) (hmT : (P1, lamQ "_law_refused_right" (top 72)) ∈ T.tb) (hu : ∀ q ∈ T.tb, q.1 = P1 → q.2 = lamQ "_law_refused_right" (top 72)) : Fd P w K mg base T 18 "_law_refused_right" 2 law_refused_rightF := fdC_at (N := ["pen", "value", "rays", "many", "stores", "bad", "none", "odd", "far", "heard"]) (ps := ["pen", "value"]) hc ⟨rfl, rfl, rfl, by decide +kernel, rfl, by decide +kernel, by decide +kernel⟩ rfl rfl (fun _ _ _ _ _ us hl => match us, hl with | [_, _], _ => rfl) fun A outer s H E f hr => bd_law_refused_right h TB hmT hu A outer s H E f hr
end
end Rh
set_option Elab.async false
set_option linter.all false
set_option maxRecDepth 100000
set_option maxHeartbeats 4000000
/-! Rh: the derivations, printed by gen.py. -/
namespace Rh
open PySem L2 PySem.Spec PyProof.Rows
section
variable {P : Program} {w : World} {K : PySem.W.Frag} {mg : Str → Option Value} {base : Heap} {T : Tx}
theorem bd_law (h : Hd P w K mg base T) {c P1 : Addr} (hc : FnCAt K mg "_law_refused_right" (top 72) c) (TB : LamX.TabB base mg c P1) (hmT : (P1, lamQ "_law_refused_right" (top 72)) ∈ T.tb) (hu : ∀ q ∈ T.tb, q.1 = P1 → q.2 = lamQ "_law_refused_right" (top 72)) (cdv : Value) (A : Around) (outer : List Env) (s : Shared) (H : Hp) (E : XK) (f : Addr) (hgd : A.guards = some []) (hr : Room 19 (A.deeper (envOfC "law" (defScope (top 73)) s.heap.objs.size f cdv))) : PSs (cxOf (L2.CX P w) P w K mg base ["script", "pen", "turn", "stores", "rays", "lots_of", "guess", "value", "ray", "some"] "law" (defScope (top 73)) f cdv A outer s H E) ((defBody (top 73)).drop 1) (tS K T E lawB) := by
  have nd : (["script", "pen", "turn", "stores", "rays", "lots_of", "guess", "value", "ray", "some"] : List Str).Nodup := by decide +kernel
  exact s_cons (s_for (t := (.nm 2)) own_body rfl (i_range h.range (x_int)) (pg_name (i := 2) nd rfl (by first | exact Or.inl rfl | exact Or.inr rfl)) (s_cons (s_set 3 nd (x_add (x_int) (x_call (fd_law_draw h) hr pass_body (a_cons (x_var 1) (a_cons (x_int) (a_nil)))))) (s_cons (s_set 4 nd (x_ife (t_cmp (c_eq (Room.units hr)) (x_var 3) (x_int)) (x_lst (a_cons (x_tup (a_cons (x_neg (x_int)) (a_nil))) (a_cons (x_tup (a_cons (x_int) (a_nil))) (a_nil)))) (x_call (fd_law_by_angle h) hr pass_body (a_cons (x_add (x_lst (a_cons (x_tup (a_cons (x_int) (a_cons (x_int) (a_nil)))) (a_cons (x_tup (a_cons (x_int) (a_cons (x_int) (a_nil)))) (a_cons (x_tup (a_cons (x_neg (x_int)) (a_cons (x_int) (a_nil)))) (a_cons (x_tup (a_cons (x_int) (a_cons (x_neg (x_int)) (a_nil)))) (a_nil)))))) (x_comp (own := [("turn", 2)]) (t := (.nm 2)) rfl nd (i_range h.range (x_call (fd_law_draw h) hr pass_body (a_cons (x_var 1) (a_cons (x_int) (a_nil))))) (blkOk_by (by kernel_rfl)) (by decide) (fun _ _ _ _ _ => (pg_name (i := 2) nd rfl (by first | exact Or.inl rfl | exact Or.inr rfl))) (fun _ _ _ _ _ => t_yes) (fun _ _ _ _ _ => x_call (fd_law_low_ray h) hr passL (a_cons (x_tup (a_cons (x_sub (x_call (fd_law_draw h) hr passL (a_cons (x_var 1) (a_cons (x_int) (a_nil)))) (x_int)) (a_cons (x_add (x_int) (x_call (fd_law_draw h) hr passL (a_cons (x_var 1) (a_cons (x_int) (a_nil))))) (a_nil)))) (a_nil))))) (a_nil))))) (s_cons (s_set 4 nd (x_ife ((w_and (t_cmp (c_eq (Room.units hr)) (x_var 3) (x_int)) (w_and1 (t_cmp (c_eq (Room.units hr)) (x_call (fd_law_draw h) hr pass_body (a_cons (x_var 1) (a_cons (x_int) (a_nil)))) (x_int)))).pt) (x_lst (a_cons (x_tup (a_cons (x_int) (a_cons (x_int) (a_nil)))) (a_cons (x_tup (a_cons (x_neg (x_int)) (a_cons (x_int) (a_nil)))) (a_cons (x_tup (a_cons (x_neg (x_int)) (a_cons (x_neg (x_int)) (a_nil)))) (a_nil))))) (x_var 4))) (s_cons (s_setLc (own := [("guess", 6)]) (t := (.nm 6)) 5 rfl nd (i_range h.range (x_add (x_int) (x_call (fd_law_draw h) hr pass_body (a_cons (x_var 1) (a_cons (x_int) (a_nil)))))) (blkOk_by (by kernel_rfl)) (by decide) (fun _ _ _ _ _ => (pg_name (i := 6) nd rfl (by first | exact Or.inl rfl | exact Or.inr rfl))) (fun _ _ _ _ _ => t_yes) (fun _ _ _ _ _ => x_call (fd_law_points h) hr passL (a_cons (x_var 1) (a_cons (x_var 3) (a_nil))))) (s_cons (s_set 7 nd (x_lotsH h hr (by decide) pass_body (x_var 4) (x_comp (own := [("some", 9)]) (t := (.nm 9)) rfl nd (i_seq (x_var 5)) (blkOk_by (by kernel_rfl)) (by decide) (fun _ _ _ _ _ => (pg_name (i := 9) nd rfl (by first | exact Or.inl rfl | exact Or.inr rfl))) (fun _ _ _ _ _ => t_yes) (fun _ _ _ _ _ => x_comp (own := [("ray", 8)]) (t := (.nm 8)) rfl nd (i_seq (x_var 4)) (blkOk_by (by kernel_rfl)) (by decide) (fun _ _ _ _ _ => (pg_name (i := 8) nd rfl (by first | exact Or.inl rfl | exact Or.inr rfl))) (fun _ _ _ _ _ => t_yes) (fun _ _ _ _ _ => x_call (fd_law_great h) hr passL (a_cons (x_var 8) (a_cons (x_var 9) (a_nil)))))))) (s_cons (s_for (t := (.tp [6, 9])) own_body rfl (i_enum h.enumerate (x_var 5)) (pg_tup rfl (pgs_cons (pg_name (i := 6) nd rfl (by first | exact Or.inl rfl | exact Or.inr rfl)) (pgs_cons (pg_name (i := 9) nd rfl (by first | exact Or.inl rfl | exact Or.inr rfl)) pgs_nil))) (s_cons (s_if (t_not (t_tru (x_callG (fd_law_one_right h) hgd (hr.mono (by decide)) pass_body (a_cons (x_var 1) (a_cons (x_var 7) (a_cons (x_var 6) (a_cons (x_var 9) (a_nil)))))))) (s_cons (s_ret (x_bl)) (s_nil)) (s_nil)) (s_nil))) (s_cons (s_if (t_not (t_tru (x_call (fd_law_refused_right h hc TB hmT hu) hr pass_body (a_cons (x_var 1) (a_cons (x_var 7) (a_nil)))))) (s_cons (s_ret (x_bl)) (s_nil)) (s_nil)) (s_nil))))))))) (s_cons (s_ret (x_bl)) (s_nil))
end
end Rh
set_option Elab.async false
set_option linter.all false
set_option maxRecDepth 100000
set_option maxHeartbeats 4000000
/-! Rh: families of rays of two stores, plain; a finite check. -/
namespace Rh
open PySem L2
def turnI : List Int → List Int → Int
  | [a, b], [c, d] => a * d - b * c
  | _, _ => 0
def halfI : List Int → Int
  | [a, b] => if 0 < b ∨ (b = 0 ∧ 0 < a) then 0 else 1
  | _ => 0
def ltD (r s : List Int) : Bool := decide (halfI r < halfI s) || (decide (halfI r = halfI s) && decide (0 < turnI r s))
def insD : List (List Int) → List Int → List (List Int)
  | [], r => [r]
  | f :: fs, r => if ltD f r = true then f :: insD fs r else if f = r then f :: fs else r :: f :: fs
def quarI : List Int → Int
  | [a, b] => if 0 ≤ b ∧ 0 < a then 0 else if a ≤ 0 ∧ 0 < b then 1 else if a < 0 ∧ b ≤ 0 then 2 else 3
  | _ => 0
def ahead (r s : List Int) : Bool := if quarI r ≠ quarI s then decide (quarI r < quarI s) else decide (0 < turnI r s)
def insP : List (List Int) → List Int → List (List Int)
  | [], r => [r]
  | f :: fs, r => if ahead f r = true then f :: insP fs r else r :: f :: fs
def byP (l : List (List Int)) : List (List Int) := l.foldl insP []
def rayB : List Int → Bool
  | [a, b] => decide (a.natAbs < 16) && decide (b.natAbs < 16) && decide (Nat.gcd a.natAbs b.natAbs = 1)
  | _ => false
def nth (l : List (List Int)) (i : Nat) : List Int := l.getD (i % l.length) []
def posI : Int → Bool
  | .ofNat (_ + 1) => true
  | _ => false
theorem posI_eq (i : Int) : posI i = decide (0 < i) := by
  unfold posI
  split
  · rename_i n
    exact (decide_eq_true (show (0 : Int) < Int.ofNat (n + 1) from Int.ofNat_succ_pos n)).symm
  · rename_i h
    refine (decide_eq_false ?_).symm
    cases i with
    | ofNat n => cases n with
      | zero => exact Int.lt_irrefl 0
      | succ n => exact absurd rfl (h n)
    | negSucc n => intro z; omega
def betw (l : List (List Int)) (r s : List Int) : Bool := l.all fun t => !(posI (turnI t s) && posI (turnI r t))
def pairs : List (List Int) → List (List Int) → List (List Int × List Int)
  | a :: b :: r, l => (a, b) :: pairs (b :: r) l
  | [a], c :: _ => [(a, c)]
  | _, _ => []
theorem pairs_mem : ∀ (m : List (List Int)) (c : List Int) (r : List (List Int)) (i : Nat), i < m.length → (m.getD i [], (m ++ [c]).getD (i + 1) []) ∈ pairs m (c :: r)
  | [], _, _, _, h => by simp at h
  | [a], c, r, 0, _ => by simp [pairs]
  | [a], c, r, i + 1, h => by simp at h
  | a :: b :: m, c, r, 0, _ => by simp [pairs]
  | a :: b :: m, c, r, i + 1, h => by
    have := pairs_mem (b :: m) c r i (by simpa using h)
    rw [pairs]
    refine List.mem_cons_of_mem _ ?_
    simpa using this
theorem pairs_nth {l : List (List Int)} {i : Nat} (h : i < l.length) : (nth l i, nth l (i + 1)) ∈ pairs l l := by
  cases l with
  | nil => simp at h
  | cons c r =>
    have k := pairs_mem (c :: r) c r i h
    have e1 : nth (c :: r) i = (c :: r).getD i [] := by unfold nth; rw [Nat.mod_eq_of_lt h]
    have e2 : nth (c :: r) (i + 1) = ((c :: r) ++ [c]).getD (i + 1) [] := by
      unfold nth
      by_cases e : i + 1 = (c :: r).length
      · rw [e, Nat.mod_self, List.getD_eq_getElem?_getD, List.getD_eq_getElem?_getD, List.getElem?_append_right (Nat.le_refl _), Nat.sub_self]; rfl
      · have : i + 1 < (c :: r).length := by omega
        rw [Nat.mod_eq_of_lt this, List.getD_eq_getElem?_getD, List.getD_eq_getElem?_getD, List.getElem?_append_left this]
    rw [e1, e2]; exact k
def flat3 (l : List (List Int)) (i : Nat) : Bool := decide (0 < turnI (nth l (i + 1)) (nth l (i + 2)) + turnI (nth l i) (nth l (i + 1)) - turnI (nth l i) (nth l (i + 2)))
def chk (l : List (List Int)) : Bool :=
  decide (3 ≤ l.length) && decide (l.length ≤ 7) && l.all rayB && decide (l.Nodup) && decide (byP l = l) && !decide (byP l.reverse = l.reverse)
    && (pairs l l).all (fun p => posI (turnI p.1 p.2) && betw l p.1 p.2) && (List.range l.length).any (flat3 l)
structure Fam (l : List (List Int)) : Prop where
  n3 : 3 ≤ l.length
  n7 : l.length ≤ 7
  ray : ∀ r ∈ l, rayB r = true
  nd : l.Nodup
  by_ : byP l = l
  rev : byP l.reverse ≠ l.reverse
  tn : ∀ i, i < l.length → 0 < turnI (nth l i) (nth l (i + 1))
  bt : ∀ i, i < l.length → ∀ t ∈ l, ¬ (0 < turnI t (nth l (i + 1)) ∧ 0 < turnI (nth l i) t)
  fl : ∃ i, i < l.length ∧ 0 < turnI (nth l (i + 1)) (nth l (i + 2)) + turnI (nth l i) (nth l (i + 1)) - turnI (nth l i) (nth l (i + 2))
theorem fam_of {l : List (List Int)} (h : chk l = true) : Fam l := by
  unfold chk at h
  simp only [Bool.and_eq_true, decide_eq_true_eq, Bool.not_eq_true', decide_eq_false_iff_not, List.all_eq_true, List.any_eq_true, List.mem_range] at h
  obtain ⟨⟨⟨⟨⟨⟨⟨h1, h2⟩, h3⟩, h4⟩, h5⟩, h6⟩, h7⟩, h8⟩ := h
  refine ⟨h1, h2, h3, h4, h5, h6, fun i hi => ?_, fun i hi t ht z => ?_, ?_⟩
  · have := (h7 _ (pairs_nth hi)).1
    rw [posI_eq] at this
    exact of_decide_eq_true this
  · have := (h7 _ (pairs_nth hi)).2
    unfold betw at this
    rw [List.all_eq_true] at this
    have := this t ht
    rw [posI_eq, posI_eq, decide_eq_true z.1, decide_eq_true z.2] at this
    cases this
  · obtain ⟨i, hi, h9⟩ := h8
    unfold flat3 at h9
    exact ⟨i, hi, of_decide_eq_true h9⟩
def axes : List (List Int) := [[1, 0], [0, 1], [-1, 0], [0, -1]]
def lowI (x y : Int) : List Int := [x / (Nat.gcd x.natAbs y.natAbs : Nat), y / (Nat.gcd x.natAbs y.natAbs : Nat)]
def ext : List (List Int) := [[-4, 1], [-3, 1], [-2, 1], [-1, 1], [0, 1], [1, 1], [2, 1], [3, 1], [4, 1], [-3, 2], [-1, 2], [1, 2], [3, 2], [-4, 3], [-2, 3], [-1, 3], [1, 3], [2, 3], [4, 3], [-3, 4], [-1, 4], [1, 4], [3, 4]]
theorem low_ext : ∀ x y : Nat, x < 9 → y < 4 → lowI ((x : Int) - 4) (1 + (y : Int)) ∈ ext := by
  have h : ∀ x ∈ List.range 9, ∀ y ∈ List.range 4, lowI ((x : Int) - 4) (1 + (y : Int)) ∈ ext := by decide +kernel
  exact fun x y hx hy => h x (List.mem_range.mpr hx) y (List.mem_range.mpr hy)
theorem ext_ray : ∀ r ∈ ext, rayB r = true := by decide +kernel
theorem axes_ray : ∀ r ∈ axes, rayB r = true := by decide +kernel
theorem fam_tri : Fam [[2, 1], [-1, 1], [-1, -3]] := fam_of (by decide +kernel)
theorem fam0 : Fam axes := fam_of (by decide +kernel)
theorem fam1 : ∀ a ∈ ext, Fam (insD axes a) := by
  have h : (ext.all fun a => chk (insD axes a)) = true := by decide +kernel
  exact fun a ha => fam_of (List.all_eq_true.mp h a ha)
theorem fam2 : ∀ a ∈ ext, ∀ b ∈ ext, Fam (insD (insD axes a) b) := by
  have h : (ext.all fun a => let s := insD axes a; ext.all fun b => chk (insD s b)) = true := by decide +kernel
  exact fun a ha b hb => fam_of (List.all_eq_true.mp (List.all_eq_true.mp h a ha) b hb)
def tri (a : List Int) : Bool := let s := insD axes a; ext.all fun b => let t := insD s b; ext.all fun c => chk (insD t c)
theorem tri_0 : tri [-4, 1] = true := by decide +kernel
theorem tri_1 : tri [-3, 1] = true := by decide +kernel
theorem tri_2 : tri [-2, 1] = true := by decide +kernel
theorem tri_3 : tri [-1, 1] = true := by decide +kernel
theorem tri_4 : tri [0, 1] = true := by decide +kernel
theorem tri_5 : tri [1, 1] = true := by decide +kernel
theorem tri_6 : tri [2, 1] = true := by decide +kernel
theorem tri_7 : tri [3, 1] = true := by decide +kernel
theorem tri_8 : tri [4, 1] = true := by decide +kernel
theorem tri_9 : tri [-3, 2] = true := by decide +kernel
theorem tri_10 : tri [-1, 2] = true := by decide +kernel
theorem tri_11 : tri [1, 2] = true := by decide +kernel
theorem tri_12 : tri [3, 2] = true := by decide +kernel
theorem tri_13 : tri [-4, 3] = true := by decide +kernel
theorem tri_14 : tri [-2, 3] = true := by decide +kernel
theorem tri_15 : tri [-1, 3] = true := by decide +kernel
theorem tri_16 : tri [1, 3] = true := by decide +kernel
theorem tri_17 : tri [2, 3] = true := by decide +kernel
theorem tri_18 : tri [4, 3] = true := by decide +kernel
theorem tri_19 : tri [-3, 4] = true := by decide +kernel
theorem tri_20 : tri [-1, 4] = true := by decide +kernel
theorem tri_21 : tri [1, 4] = true := by decide +kernel
theorem tri_22 : tri [3, 4] = true := by decide +kernel
theorem tri_all : ∀ a ∈ ext, tri a = true := by
  unfold ext
  exact List.forall_mem_cons.mpr ⟨tri_0, List.forall_mem_cons.mpr ⟨tri_1, List.forall_mem_cons.mpr ⟨tri_2, List.forall_mem_cons.mpr ⟨tri_3, List.forall_mem_cons.mpr ⟨tri_4, List.forall_mem_cons.mpr ⟨tri_5, List.forall_mem_cons.mpr ⟨tri_6, List.forall_mem_cons.mpr ⟨tri_7, List.forall_mem_cons.mpr ⟨tri_8, List.forall_mem_cons.mpr ⟨tri_9, List.forall_mem_cons.mpr ⟨tri_10, List.forall_mem_cons.mpr ⟨tri_11, List.forall_mem_cons.mpr ⟨tri_12, List.forall_mem_cons.mpr ⟨tri_13, List.forall_mem_cons.mpr ⟨tri_14, List.forall_mem_cons.mpr ⟨tri_15, List.forall_mem_cons.mpr ⟨tri_16, List.forall_mem_cons.mpr ⟨tri_17, List.forall_mem_cons.mpr ⟨tri_18, List.forall_mem_cons.mpr ⟨tri_19, List.forall_mem_cons.mpr ⟨tri_20, List.forall_mem_cons.mpr ⟨tri_21, List.forall_mem_cons.mpr ⟨tri_22, (fun _ h => nomatch h)⟩⟩⟩⟩⟩⟩⟩⟩⟩⟩⟩⟩⟩⟩⟩⟩⟩⟩⟩⟩⟩⟩⟩
theorem fam3 : ∀ a ∈ ext, ∀ b ∈ ext, ∀ c ∈ ext, Fam (insD (insD (insD axes a) b) c) := by
  intro a ha b hb c hc
  have h := tri_all a ha
  unfold tri at h
  exact fam_of (List.all_eq_true.mp (List.all_eq_true.mp h b hb) c hc)
theorem fam_drawn {es : List (List Int)} (h : ∀ e ∈ es, e ∈ ext) (hl : es.length ≤ 3) : Fam ((axes ++ es).foldl insD []) := by
  have e0 : axes.foldl insD [] = axes := by decide +kernel
  rw [List.foldl_append, e0]
  match es, hl, h with
  | [], _, _ => exact fam0
  | [a], _, h => exact fam1 a (h a (by simp))
  | [a, b], _, h => exact fam2 a (h a (by simp)) b (h b (by simp))
  | [a, b, c], _, h => exact fam3 a (h a (by simp)) b (h b (by simp)) c (h c (by simp))
theorem rayB_ok {r : List Int} (h : rayB r = true) : ∃ a b, r = [a, b] ∧ Sz 4 a ∧ Sz 4 b ∧ Nat.gcd a.natAbs b.natAbs = 1 := by
  unfold rayB at h
  split at h
  · rename_i a b
    simp only [Bool.and_eq_true, decide_eq_true_eq] at h
    exact ⟨a, b, rfl, h.1.1, h.1.2, h.2⟩
  · cases h
theorem rayB_rayOk {r : List Int} (h : rayB r = true) : RayOk 2 r := by
  obtain ⟨a, b, rfl, h1, h2, _⟩ := rayB_ok h
  refine ⟨rfl, fun x hx => ?_⟩
  rcases List.mem_cons.mp hx with z | z
  · rw [z]; exact h1
  · rw [List.mem_singleton.mp z]; exact h2
end Rh
set_option Elab.async false
set_option linter.all false
set_option maxRecDepth 100000
set_option maxHeartbeats 4000000
/-! Rh: steps; by_angle by the program and by the law. -/
namespace Rh
open PySem L2
section
variable {a b : SF} {σ τ : En} {w w1 : Pn} {d : D} {c np n : Nat} {ds : List D} {body : SF} {r : Option (Out Fl)}
theorem sc_nx (h : a σ w = some (.ok (.nx τ) w1)) : scons a b σ w = b τ w1 := by unfold scons; rw [h]; rfl
theorem sc_rt (h : a σ w = some (.ok (.rt d) w1)) : scons a b σ w = some (.ok (.rt d) w1) := by unfold scons; rw [h]; rfl
theorem sc_ex (h : a σ w = some (.ex c d w1)) : scons a b σ w = some (.ex c d w1) := by unfold scons; rw [h]; rfl
theorem fn_rt (hl : ds.length = np) (h : body (startE n ds) w = some (.ok (.rt d) w1)) : fnF np n body ds w = some (.ok d w1) := by unfold fnF; rw [if_pos hl, h]; rfl
theorem fn_nx (hl : ds.length = np) (h : body (startE n ds) w = some (.ok (.nx τ) w1)) : fnF np n body ds w = some (.ok .non w1) := by unfold fnF; rw [if_pos hl, h]; rfl
theorem fn_ex (hl : ds.length = np) (h : body (startE n ds) w = some (.ex c d w1)) : fnF np n body ds w = some (.ex c d w1) := by unfold fnF; rw [if_pos hl, h]; rfl
theorem if_yes {t : TF} (h : t σ w = some (.ok true w1)) : site t a b σ w = a σ w1 := by unfold site; rw [h]; rfl
theorem if_no {t : TF} (h : t σ w = some (.ok false w1)) : site t a b σ w = b σ w1 := by unfold site; rw [h]; rfl
theorem asg_ok {t : Tg} {e : XF} (h : e σ w = some (.ok d w1)) (hs : setT σ t d = some τ) : sasg t e σ w = some (.ok (.nx τ) w1) := by unfold sasg; rw [h, bnd_ok, hs]; rfl
theorem ret_ok {e : XF} (h : e σ w = some (.ok d w1)) : sret e σ w = some (.ok (.rt d) w1) := by unfold sret; rw [h]; rfl
theorem ret_ex {e : XF} (h : e σ w = some (.ex c d w1)) : sret e σ w = some (.ex c d w1) := by unfold sret; rw [h]; rfl
theorem exp_ok {e : XF} (h : e σ w = some (.ok d w1)) : sexpr e σ w = some (.ok (.nx σ) w1) := by unfold sexpr; rw [h]; rfl
theorem exp_ex {e : XF} (h : e σ w = some (.ex c d w1)) : sexpr e σ w = some (.ex c d w1) := by unfold sexpr; rw [h]; rfl
theorem call_ok {f : FnF} {as : AF} {o : Option (Out D)} (h : as σ w = some (.ok ds w1)) (hf : f ds w1 = o) : xcall f as σ w = o := by unfold xcall; rw [h]; exact hf
theorem tru_ok {e : XF} {b : Bool} (h : e σ w = some (.ok (.bl b) w1)) : xtru e σ w = some (.ok b w1) := by unfold xtru; rw [h]; rfl
theorem args_1 {e : XF} (h : e σ w = some (.ok d w1)) : acons e anil σ w = some (.ok [d] w1) := by unfold acons; rw [h]; rfl
theorem args_c {e : XF} {as : AF} {w2 : Pn} (h : e σ w = some (.ok d w1)) (h2 : as σ w1 = some (.ok ds w2)) : acons e as σ w = some (.ok (d :: ds) w2) := by unfold acons; rw [h, bnd_ok, h2]; rfl
theorem bui_ok {b : Bu} {as : AF} {x : D} (h : as σ w = some (.ok ds w1)) (hb : buF b ds = some x) : xbui b as σ w = some (.ok x w1) := by unfold xbui; rw [h, bnd_ok, hb]; rfl
theorem cmp_ok {o : Co} {x y : XF} {u v z : D} {w2 : Pn} (h : x σ w = some (.ok u w1)) (g : y σ w1 = some (.ok v w2)) (hb : coF o u v = some z) : xcmp o x y σ w = some (.ok z w2) := by unfold xcmp; rw [h, bnd_ok, g, bnd_ok, hb]; rfl
theorem bin_ok {o : Bo} {x y : XF} {u v z : D} {w2 : Pn} (h : x σ w = some (.ok u w1)) (g : y σ w1 = some (.ok v w2)) (hb : boF o u v = some z) : xbin o x y σ w = some (.ok z w2) := by unfold xbin; rw [h, bnd_ok, g, bnd_ok, hb]; rfl
theorem not_ok {t : TF} {k : Bool} (h : t σ w = some (.ok k w1)) : tnot t σ w = some (.ok (!k) w1) := by unfold tnot; rw [h]; rfl
theorem tup_ok {as : AF} (h : as σ w = some (.ok ds w1)) (hs : small ds.length = true) : xtup as σ w = some (.ok (.tup ds) w1) := by unfold xtup; rw [h, bnd_ok, if_pos hs]
theorem lst_ok {as : AF} (h : as σ w = some (.ok ds w1)) (hs : small ds.length = true) : xlst as σ w = some (.ok (.lst ds) w1) := by unfold xlst; rw [h, bnd_ok, if_pos hs]
theorem or_f {x y : TF} (h : x σ w = some (.ok false w1)) : tor x y σ w = y σ w1 := by unfold tor; rw [h]; rfl
theorem or_t {x y : TF} (h : x σ w = some (.ok true w1)) : tor x y σ w = some (.ok true w1) := by unfold tor; rw [h]; rfl
theorem and_t {x y : TF} (h : x σ w = some (.ok true w1)) : tand x y σ w = y σ w1 := by unfold tand; rw [h]; rfl
theorem and_f {x y : TF} (h : x σ w = some (.ok false w1)) : tand x y σ w = some (.ok false w1) := by unfold tand; rw [h]; rfl
theorem xand_t {x y : XF} (h : x σ w = some (.ok (.bl true) w1)) : xand x y σ w = y σ w1 := by unfold xand; rw [h]; rfl
theorem xand_f {x y : XF} (h : x σ w = some (.ok (.bl false) w1)) : xand x y σ w = some (.ok (.bl false) w1) := by unfold xand; rw [h]; rfl
theorem idx_ok {x y : XF} {u v z : D} {w2 : Pn} (h : x σ w = some (.ok u w1)) (g : y σ w1 = some (.ok v w2)) (hb : idxF u v = some z) : xidx x y σ w = some (.ok z w2) := by unfold xidx; rw [h, bnd_ok, g, bnd_ok, hb]; rfl
theorem for_of {t : Tg} {s : AF} {l : List D} (h : s σ w = some (.ok l w1)) (hb : forL t a l σ w1 = r) : sfor t s a σ w = r := by unfold sfor; rw [h]; exact hb
end
/-! ### equal rows of ints -/
theorem eqv_ints : ∀ r s : List Int, PyData.eqvAll (r.map .int) (s.map .int) = decide (r = s)
  | [], [] => by simp [PyData.eqvAll]
  | [], _ :: _ => by simp [PyData.eqvAll]
  | _ :: _, [] => by simp [PyData.eqvAll]
  | a :: r, b :: s => by
    rw [List.map_cons, List.map_cons, PyData.eqvAll, eqv_ints r s, PyData.eqv]
    by_cases h1 : a = b
    · subst h1
      by_cases h2 : r = s
      · simp [h2]
      · simp [h2]
    · simp [h1]
theorem pys_rays : ∀ l : List (List Int), D.pys (l.map D.ray) = some (l.map fun r => PyData.tuple (r.map .int))
  | [] => rfl
  | r :: l => by
    rw [List.map_cons]
    unfold D.pys
    rw [pys_rays l]
    show (match (D.tup (r.map .int)).py with | some x => _ | none => _) = _
    simp only [D.py, pys_ints, Option.map_some]
    rfl
theorem eqv_rays : ∀ l m : List (List Int), PyData.eqvAll (l.map fun r => PyData.tuple (r.map .int)) (m.map fun r => PyData.tuple (r.map .int)) = decide (l = m)
  | [], [] => by simp [PyData.eqvAll]
  | [], _ :: _ => by simp [PyData.eqvAll]
  | _ :: _, [] => by simp [PyData.eqvAll]
  | a :: r, b :: s => by
    rw [List.map_cons, List.map_cons, PyData.eqvAll, eqv_rays r s, PyData.eqv, eqv_ints]
    by_cases h1 : a = b
    · subst h1
      by_cases h2 : r = s
      · simp [h2]
      · simp [h2]
    · simp [h1]
theorem eqF_of {a b : D} {x y : PyData} {m n : Nat} (ha : Pl m a) (hb : Pl n b) (hm : m ≤ 64) (hn : n ≤ 64) (e1 : D.py a = some x) (e2 : D.py b = some y) : eqF a b = some (PyData.eqv x y) := by
  obtain ⟨x', h1, h2, h3⟩ := ha.ex
  obtain ⟨y', g1, g2, g3⟩ := hb.ex
  rw [e1] at h1; cases h1
  rw [e2] at g1; cases g1
  have s1 : SeqAt.shaped x = true := by unfold SeqAt.shaped; rw [h2, Bool.true_and]; exact decide_eq_true (by omega)
  have s2 : SeqAt.shaped y = true := by unfold SeqAt.shaped; rw [g2, Bool.true_and]; exact decide_eq_true (by omega)
  unfold eqF
  rw [e1, e2]
  simp only [s1, s2, Bool.and_self, if_true]
theorem py_ray (r : List Int) : D.py (D.ray r) = some (.tuple (r.map .int)) := by
  unfold D.ray D.py
  rw [pys_ints]; rfl
theorem eq_ray (r s : List Int) : eqF (D.ray r) (D.ray s) = some (decide (r = s)) := by
  rw [eqF_of (pl_ray r) (pl_ray s) (by decide) (by decide) (py_ray r) (py_ray s), PyData.eqv, eqv_ints]
theorem ne_ray (r s : List Int) : coF .ne (D.ray r) (D.ray s) = some (.bl (!decide (r = s))) := by
  show (eqF (D.ray r) (D.ray s)).map (fun k => D.bl (!k)) = _
  rw [eq_ray]; rfl
theorem pl_rays (l : List (List Int)) : Pl 2 (.tup (l.map D.ray)) := pl_tup fun d hd => by
  obtain ⟨r, _, rfl⟩ := List.mem_map.mp hd
  exact pl_ray r
theorem py_rays (l : List (List Int)) : D.py (.tup (l.map D.ray)) = some (.tuple (l.map fun r => PyData.tuple (r.map .int))) := by
  unfold D.py
  rw [pys_rays]; rfl
theorem ne_rays (l m : List (List Int)) : coF .ne (.tup (l.map D.ray)) (.tup (m.map D.ray)) = some (.bl (!decide (l = m))) := by
  show (eqF (.tup (l.map D.ray)) (.tup (m.map D.ray))).map (fun k => D.bl (!k)) = _
  rw [eqF_of (pl_rays l) (pl_rays m) (by decide) (by decide) (py_rays l) (py_rays m), PyData.eqv, eqv_rays]; rfl
/-! ### by_angle -/
theorem u2_0 (a b : Int) : idxF (D.ray [a, b]) (.int 0) = some (.int a) := rfl
theorem u2_1 (a b : Int) : idxF (D.ray [a, b]) (.int 1) = some (.int b) := rfl
theorem law_half_eq {r : List Int} (w : Pn) (h : rayB r = true) : law_halfF [D.ray r] w = some (.ok (.int (halfI r)) w) := by
  obtain ⟨a, b, rfl, _⟩ := rayB_ok h
  have e0 : (b == 0) = decide (b = 0) := by rw [Bool.eq_iff_iff]; simp
  have eh : halfI [a, b] = if 0 < b ∨ (b = 0 ∧ 0 < a) then 0 else 1 := rfl
  rw [eh]
  by_cases h1 : 0 < b
  · have : 0 < b ∨ b = 0 ∧ 0 < a := .inl h1
    rw [if_pos this]
    simp only [fnF, List.length_cons, List.length_nil, Nat.reduceAdd, Nat.reduceSub, if_true, start_eq, List.map_cons, List.map_nil, List.cons_append, List.nil_append, List.append_nil, List.replicate, scons, snil_eq, spass_eq, sasg, sret, sexpr, site, srais, saug, spar2, spar3, xbui, xbin, xcmp, xneg, xidx, xtup, xlst, xcall, xisi, xnot, xand, xor, xife, xtru, xcst, tand, tor, tnot, tyes, acons, anil, xvar, slot_z, slot_s, mslot_z, mslot_s, opt_some, bnd_ok, bu_gcd, Int.natAbs_natCast, setT, List.set_cons_succ, List.set_cons_zero, Option.map_some, small0, small1, small2, small3, idx_tup, idx_lst, at2_0, at2_1, at1_0, bo_add, bo_sub, co_lt, co_le, co_gt, co_ge, co_isN, ne_int, eqc_int, tru_bl, tru_int, tru_non, tru_lst, bu_int, bu_abs, bu_lenT, bu_lenL, bu_tupT, bu_tupL, isi_lt, isi_ll, isi_ii, isi_ib, isi_bi, isi_bb, decide_true, decide_false, Bool.not_true, Bool.not_false, Bool.false_eq_true, if_false, D.isNon, negF, law_halfF, law_halfB, u2_0, u2_1, h1]
  · by_cases h2 : b = 0
    · by_cases h3 : 0 < a
      · have : 0 < b ∨ b = 0 ∧ 0 < a := .inr ⟨h2, h3⟩
        rw [if_pos this]
        simp only [fnF, List.length_cons, List.length_nil, Nat.reduceAdd, Nat.reduceSub, if_true, start_eq, List.map_cons, List.map_nil, List.cons_append, List.nil_append, List.append_nil, List.replicate, scons, snil_eq, spass_eq, sasg, sret, sexpr, site, srais, saug, spar2, spar3, xbui, xbin, xcmp, xneg, xidx, xtup, xlst, xcall, xisi, xnot, xand, xor, xife, xtru, xcst, tand, tor, tnot, tyes, acons, anil, xvar, slot_z, slot_s, mslot_z, mslot_s, opt_some, bnd_ok, bu_gcd, Int.natAbs_natCast, setT, List.set_cons_succ, List.set_cons_zero, Option.map_some, small0, small1, small2, small3, idx_tup, idx_lst, at2_0, at2_1, at1_0, bo_add, bo_sub, co_lt, co_le, co_gt, co_ge, co_isN, ne_int, eqc_int, tru_bl, tru_int, tru_non, tru_lst, bu_int, bu_abs, bu_lenT, bu_lenL, bu_tupT, bu_tupL, isi_lt, isi_ll, isi_ii, isi_ib, isi_bi, isi_bb, decide_true, decide_false, Bool.not_true, Bool.not_false, Bool.false_eq_true, if_false, D.isNon, negF, law_halfF, law_halfB, u2_0, u2_1, h1, e0, h2, h3, Int.lt_irrefl, beq_self_eq_true]
      · have : ¬ (0 < b ∨ b = 0 ∧ 0 < a) := fun z => z.elim h1 fun z => h3 z.2
        rw [if_neg this]
        simp only [fnF, List.length_cons, List.length_nil, Nat.reduceAdd, Nat.reduceSub, if_true, start_eq, List.map_cons, List.map_nil, List.cons_append, List.nil_append, List.append_nil, List.replicate, scons, snil_eq, spass_eq, sasg, sret, sexpr, site, srais, saug, spar2, spar3, xbui, xbin, xcmp, xneg, xidx, xtup, xlst, xcall, xisi, xnot, xand, xor, xife, xtru, xcst, tand, tor, tnot, tyes, acons, anil, xvar, slot_z, slot_s, mslot_z, mslot_s, opt_some, bnd_ok, bu_gcd, Int.natAbs_natCast, setT, List.set_cons_succ, List.set_cons_zero, Option.map_some, small0, small1, small2, small3, idx_tup, idx_lst, at2_0, at2_1, at1_0, bo_add, bo_sub, co_lt, co_le, co_gt, co_ge, co_isN, ne_int, eqc_int, tru_bl, tru_int, tru_non, tru_lst, bu_int, bu_abs, bu_lenT, bu_lenL, bu_tupT, bu_tupL, isi_lt, isi_ll, isi_ii, isi_ib, isi_bi, isi_bb, decide_true, decide_false, Bool.not_true, Bool.not_false, Bool.false_eq_true, if_false, D.isNon, negF, law_halfF, law_halfB, u2_0, u2_1, h1, e0, h2, h3, Int.lt_irrefl, beq_self_eq_true]
    · have : ¬ (0 < b ∨ b = 0 ∧ 0 < a) := fun z => z.elim h1 fun z => h2 z.1
      rw [if_neg this]
      simp only [fnF, List.length_cons, List.length_nil, Nat.reduceAdd, Nat.reduceSub, if_true, start_eq, List.map_cons, List.map_nil, List.cons_append, List.nil_append, List.append_nil, List.replicate, scons, snil_eq, spass_eq, sasg, sret, sexpr, site, srais, saug, spar2, spar3, xbui, xbin, xcmp, xneg, xidx, xtup, xlst, xcall, xisi, xnot, xand, xor, xife, xtru, xcst, tand, tor, tnot, tyes, acons, anil, xvar, slot_z, slot_s, mslot_z, mslot_s, opt_some, bnd_ok, bu_gcd, Int.natAbs_natCast, setT, List.set_cons_succ, List.set_cons_zero, Option.map_some, small0, small1, small2, small3, idx_tup, idx_lst, at2_0, at2_1, at1_0, bo_add, bo_sub, co_lt, co_le, co_gt, co_ge, co_isN, ne_int, eqc_int, tru_bl, tru_int, tru_non, tru_lst, bu_int, bu_abs, bu_lenT, bu_lenL, bu_tupT, bu_tupL, isi_lt, isi_ll, isi_ii, isi_ib, isi_bi, isi_bb, decide_true, decide_false, Bool.not_true, Bool.not_false, Bool.false_eq_true, if_false, D.isNon, negF, law_halfF, law_halfB, u2_0, u2_1, h1, e0, h2]
theorem turn_r {r s : List Int} (w : Pn) (h : rayB r = true) (g : rayB s = true) : turn_ofF [D.ray r, D.ray s] w = some (.ok (.int (turnI r s)) w) := by
  obtain ⟨a, b, rfl, ha, hb, _⟩ := rayB_ok h
  obtain ⟨c, d, rfl, hc, hd, _⟩ := rayB_ok g
  exact turn_eq w ha hb hc hd
theorem law_turn_r {r s : List Int} (w : Pn) (h : rayB r = true) (g : rayB s = true) : law_turnF [D.ray r, D.ray s] w = some (.ok (.int (turnI r s)) w) := by
  obtain ⟨a, b, rfl, ha, hb, _⟩ := rayB_ok h
  obtain ⟨c, d, rfl, hc, hd, _⟩ := rayB_ok g
  exact law_turn_eq w ha hb hc hd
theorem quarter_eq {r : List Int} (w : Pn) (h : rayB r = true) : quarter_ofF [D.ray r] w = some (.ok (.int (quarI r)) w) := by
  obtain ⟨a, b, rfl, _⟩ := rayB_ok h
  have eh : quarI [a, b] = if 0 ≤ b ∧ 0 < a then 0 else if a ≤ 0 ∧ 0 < b then 1 else if a < 0 ∧ b ≤ 0 then 2 else 3 := rfl
  rw [eh]
  by_cases h1 : 0 ≤ b <;> by_cases h2 : 0 < a <;> by_cases h3 : a ≤ 0 <;> by_cases h4 : 0 < b <;> by_cases h5 : a < 0 <;> by_cases h6 : b ≤ 0 <;>
    (try omega) <;> simp only [fnF, List.length_cons, List.length_nil, Nat.reduceAdd, Nat.reduceSub, if_true, start_eq, List.map_cons, List.map_nil, List.cons_append, List.nil_append, List.append_nil, List.replicate, scons, snil_eq, spass_eq, sasg, sret, sexpr, site, srais, saug, spar2, spar3, xbui, xbin, xcmp, xneg, xidx, xtup, xlst, xcall, xisi, xnot, xand, xor, xife, xtru, xcst, tand, tor, tnot, tyes, acons, anil, xvar, slot_z, slot_s, mslot_z, mslot_s, opt_some, bnd_ok, bu_gcd, Int.natAbs_natCast, setT, List.set_cons_succ, List.set_cons_zero, Option.map_some, small0, small1, small2, small3, idx_tup, idx_lst, at2_0, at2_1, at1_0, bo_add, bo_sub, co_lt, co_le, co_gt, co_ge, co_isN, ne_int, eqc_int, tru_bl, tru_int, tru_non, tru_lst, bu_int, bu_abs, bu_lenT, bu_lenL, bu_tupT, bu_tupL, isi_lt, isi_ll, isi_ii, isi_ib, isi_bi, isi_bb, decide_true, decide_false, Bool.not_true, Bool.not_false, Bool.false_eq_true, if_false, D.isNon, negF, quarter_ofF, quarter_ofB, u2_0, u2_1, h1, h2, h3, h4, h5, h6, and_self, and_true, true_and, and_false, false_and]
theorem is_ahead_eq {r s : List Int} (w : Pn) (h : rayB r = true) (g : rayB s = true) : is_aheadF [D.ray r, D.ray s] w = some (.ok (.bl (ahead r s)) w) := by
  have e1 := quarter_eq w h
  have e2 := quarter_eq w g
  have e3 := turn_r w h g
  have e0 : (quarI r == quarI s) = decide (quarI r = quarI s) := by rw [Bool.eq_iff_iff]; simp
  unfold ahead
  by_cases c : quarI r = quarI s
  · simp only [fnF, List.length_cons, List.length_nil, Nat.reduceAdd, Nat.reduceSub, if_true, start_eq, List.map_cons, List.map_nil, List.cons_append, List.nil_append, List.append_nil, List.replicate, scons, snil_eq, spass_eq, sasg, sret, sexpr, site, srais, saug, spar2, spar3, xbui, xbin, xcmp, xneg, xidx, xtup, xlst, xcall, xisi, xnot, xand, xor, xife, xtru, xcst, tand, tor, tnot, tyes, acons, anil, xvar, slot_z, slot_s, mslot_z, mslot_s, opt_some, bnd_ok, bu_gcd, Int.natAbs_natCast, setT, List.set_cons_succ, List.set_cons_zero, Option.map_some, small0, small1, small2, small3, idx_tup, idx_lst, at2_0, at2_1, at1_0, bo_add, bo_sub, co_lt, co_le, co_gt, co_ge, co_isN, ne_int, eqc_int, tru_bl, tru_int, tru_non, tru_lst, bu_int, bu_abs, bu_lenT, bu_lenL, bu_tupT, bu_tupL, isi_lt, isi_ll, isi_ii, isi_ib, isi_bi, isi_bb, decide_true, decide_false, Bool.not_true, Bool.not_false, Bool.false_eq_true, if_false, D.isNon, negF, is_aheadF, is_aheadB, e1, e2, e3, e0, c, ne_eq, not_true_eq_false, beq_self_eq_true]
  · simp only [fnF, List.length_cons, List.length_nil, Nat.reduceAdd, Nat.reduceSub, if_true, start_eq, List.map_cons, List.map_nil, List.cons_append, List.nil_append, List.append_nil, List.replicate, scons, snil_eq, spass_eq, sasg, sret, sexpr, site, srais, saug, spar2, spar3, xbui, xbin, xcmp, xneg, xidx, xtup, xlst, xcall, xisi, xnot, xand, xor, xife, xtru, xcst, tand, tor, tnot, tyes, acons, anil, xvar, slot_z, slot_s, mslot_z, mslot_s, opt_some, bnd_ok, bu_gcd, Int.natAbs_natCast, setT, List.set_cons_succ, List.set_cons_zero, Option.map_some, small0, small1, small2, small3, idx_tup, idx_lst, at2_0, at2_1, at1_0, bo_add, bo_sub, co_lt, co_le, co_gt, co_ge, co_isN, ne_int, eqc_int, tru_bl, tru_int, tru_non, tru_lst, bu_int, bu_abs, bu_lenT, bu_lenL, bu_tupT, bu_tupL, isi_lt, isi_ll, isi_ii, isi_ib, isi_bi, isi_bb, decide_true, decide_false, Bool.not_true, Bool.not_false, Bool.false_eq_true, if_false, D.isNon, negF, is_aheadF, is_aheadB, e1, e2, e3, e0, c, ne_eq, not_false_eq_true]
end Rh
set_option Elab.async false
set_option linter.all false
set_option maxRecDepth 100000
set_option maxHeartbeats 4000000
/-! Rh: the loops of by_angle. -/
namespace Rh
open PySem L2
def cnt {α : Type} (p : α → Bool) : List α → Nat
  | [] => 0
  | x :: r => if p x = true then cnt p r + 1 else 0
theorem cnt_le {α : Type} (p : α → Bool) : ∀ l : List α, cnt p l ≤ l.length
  | [] => Nat.le_refl _
  | x :: r => by
    unfold cnt
    have := cnt_le p r
    split <;> simp <;> omega
theorem whl_cnt {α : Type} {C : TF} {B : SF} {w : Pn} (p : α → Bool) (l : List α) (S : Nat → En) (hC : ∀ k x, l[k]? = some x → C (S k) w = some (.ok (p x) w)) (hE : C (S l.length) w = some (.ok false w)) (hB : ∀ k, k < l.length → B (S k) w = some (.ok (.nx (S (k + 1))) w)) :
    ∀ fuel k, k ≤ l.length → l.length - k < fuel → whlN C B fuel (S k) w = some (.ok (.nx (S (k + cnt p (l.drop k)))) w) := by
  intro fuel
  induction fuel with
  | zero => intro k _ h; omega
  | succ f ih =>
    intro k hk hf
    by_cases e : k = l.length
    · subst e
      rw [whlN, hE]
      simp [cnt]
    · have hlt : k < l.length := by omega
      have hx : l[k]? = some l[k] := List.getElem?_eq_getElem hlt
      rw [whlN, hC k _ hx, bnd_ok, List.drop_eq_getElem_cons hlt]
      by_cases hp : p l[k] = true
      · rw [if_pos hp, hB k hlt, bnd_ok]
        show whlN C B f (S (k + 1)) w = _
        rw [ih (k + 1) (by omega) (by omega)]
        have : cnt p (l[k] :: l.drop (k + 1)) = cnt p (l.drop (k + 1)) + 1 := by
          rw [cnt]
          rw [if_pos hp]
        rw [this]
        have : k + 1 + cnt p (l.drop (k + 1)) = k + (cnt p (l.drop (k + 1)) + 1) := by omega
        rw [this]
      · rw [if_neg hp]
        have : cnt p (l[k] :: l.drop (k + 1)) = 0 := by
          rw [cnt]
          rw [if_neg hp]
        rw [this]
        rfl
theorem insP_idx (r : List Int) : ∀ l : List (List Int), insP l r = l.insertIdx (cnt (fun f => ahead f r) l) r
  | [] => rfl
  | f :: fs => by
    unfold insP cnt
    by_cases h : ahead f r = true
    · rw [if_pos h, if_pos h, insP_idx r fs, List.insertIdx_succ_cons]
    · rw [if_neg h, if_neg h]; rfl
theorem insD_idx (r : List Int) : ∀ l : List (List Int), insD l r = if cnt (fun f => ltD f r) l = l.length ∨ l[cnt (fun f => ltD f r) l]? ≠ some r then l.insertIdx (cnt (fun f => ltD f r) l) r else l
  | [] => rfl
  | f :: fs => by
    have ih := insD_idx r fs
    unfold insD cnt
    by_cases h : ltD f r = true
    · rw [if_pos h, if_pos h, ih, List.insertIdx_succ_cons, List.length_cons, List.getElem?_cons_succ]
      by_cases c : cnt (fun f => ltD f r) fs = fs.length ∨ fs[cnt (fun f => ltD f r) fs]? ≠ some r
      · rw [if_pos c, if_pos]
        rcases c with c | c
        · exact .inl (by rw [c])
        · exact .inr c
      · rw [if_neg c, if_neg]
        rintro (z | z)
        · exact c (.inl (by omega))
        · exact c (.inr z)
    · rw [if_neg h, if_neg h]
      by_cases e : f = r
      · rw [if_pos e, if_neg]
        rintro (z | z)
        · simp at z
        · exact z (by rw [e]; rfl)
      · rw [if_neg e, if_pos]
        · rfl
        · exact .inr (fun z => e (by simpa using z))
theorem insP_len (r : List Int) (l : List (List Int)) : (insP l r).length = l.length + 1 := by
  rw [insP_idx, List.length_insertIdx_of_le_length (cnt_le _ _)]
theorem insD_len (r : List Int) (l : List (List Int)) : (insD l r).length ≤ l.length + 1 := by
  rw [insD_idx]
  split
  · rw [List.length_insertIdx_of_le_length (cnt_le _ _)]; exact Nat.le_refl _
  · exact Nat.le_succ _
theorem mem_insIdx {α : Type} {l : List α} {n : Nat} {r x : α} (h : x ∈ l.insertIdx n r) : x = r ∨ x ∈ l := by
  by_cases hn : n ≤ l.length
  · rwa [List.mem_insertIdx hn] at h
  · rw [List.insertIdx_of_length_lt (by omega)] at h; exact .inr h
theorem insP_ray {r : List Int} {l : List (List Int)} (h : ∀ x ∈ l, rayB x = true) (hr : rayB r = true) : ∀ x ∈ insP l r, rayB x = true := fun x hx => by
  rw [insP_idx] at hx
  rcases mem_insIdx hx with e | e
  · rw [e]; exact hr
  · exact h x e
theorem insD_ray {r : List Int} {l : List (List Int)} (h : ∀ x ∈ l, rayB x = true) (hr : rayB r = true) : ∀ x ∈ insD l r, rayB x = true := fun x hx => by
  rw [insD_idx] at hx
  split at hx
  · rcases mem_insIdx hx with e | e
    · rw [e]; exact hr
    · exact h x e
  · exact h x hx
theorem mapIns (r : List Int) : ∀ (n : Nat) (l : List (List Int)), (l.map D.ray).insertIdx n (D.ray r) = (l.insertIdx n r).map D.ray
  | 0, l => rfl
  | n + 1, [] => rfl
  | n + 1, x :: l => by
    rw [List.map_cons, List.insertIdx_succ_cons, List.insertIdx_succ_cons, List.map_cons, mapIns r n l]
/-! by_angle of the program -/
def cP : TF := tand (xtru (xcmp .lt (xvar 3) (xlenM 1))) (xtru (xcall is_aheadF (acons (xidxM 1 (xvar 3)) (acons (xvar 2) (anil)))))
def bP : SF := scons (saug 3 (xcst (.int 1))) (snil)
theorem lenM_eq {l : List D} {x y z : Option Sl} {w : Pn} : xlenM 1 [x, some (.chg l), y, z] w = some (.ok (.int l.length) w) := rfl
theorem idxM_eq {l : List D} {x y : Option Sl} {k : Nat} {d : D} {w : Pn} (h : l[k]? = some d) (hl : l.length ≤ 1000000) : xidxM 1 (xvar 3) [x, some (.chg l), y, some (.val (.int (k : Int)))] w = some (.ok d w) := by
  have e := at_nat h hl
  simp only [fnF, List.length_cons, List.length_nil, Nat.reduceAdd, Nat.reduceSub, if_true, start_eq, List.map_cons, List.map_nil, List.cons_append, List.nil_append, List.append_nil, List.replicate, scons, snil_eq, spass_eq, sasg, sret, sexpr, site, srais, saug, spar2, spar3, xbui, xbin, xcmp, xneg, xidx, xtup, xlst, xcall, xisi, xnot, xand, xor, xife, xtru, xcst, tand, tor, tnot, tyes, acons, anil, xvar, slot_z, slot_s, mslot_z, mslot_s, opt_some, bnd_ok, bu_gcd, Int.natAbs_natCast, setT, List.set_cons_succ, List.set_cons_zero, Option.map_some, small0, small1, small2, small3, idx_tup, idx_lst, at2_0, at2_1, at1_0, bo_add, bo_sub, co_lt, co_le, co_gt, co_ge, co_isN, ne_int, eqc_int, tru_bl, tru_int, tru_non, tru_lst, bu_int, bu_abs, bu_lenT, bu_lenL, bu_tupT, bu_tupL, isi_lt, isi_ll, isi_ii, isi_ib, isi_bi, isi_bb, decide_true, decide_false, Bool.not_true, Bool.not_false, Bool.false_eq_true, if_false, D.isNon, negF, xidxM, e]
theorem rowP {found : List (List Int)} {r : List Int} {A : Option Sl} {x : Option Sl} (w : Pn) (hf : ∀ x ∈ found, rayB x = true) (hr : rayB r = true) (hl : found.length ≤ 100) :
    scons (sasg (.nm 3) (xcst (.int 0))) (scons (swhl 1000 cP bP) (scons (sins 1 (xvar 3) (xvar 2)) (snil))) [A, some (.chg (found.map D.ray)), some (.val (D.ray r)), x] w
      = some (.ok (.nx [A, some (.chg ((insP found r).map D.ray)), some (.val (D.ray r)), some (.val (.int ((cnt (fun f => ahead f r) found : Nat) : Int)))]) w) := by
  have e1 : sasg (.nm 3) (xcst (.int 0)) [A, some (.chg (found.map D.ray)), some (.val (D.ray r)), x] w = some (.ok (.nx [A, some (.chg (found.map D.ray)), some (.val (D.ray r)), some (.val (.int ((0 : Nat) : Int)))]) w) := rfl
  rw [sc_nx e1]
  have e2 := whl_cnt (C := cP) (B := bP) (w := w) (fun f => ahead f r) found (fun k => [A, some (.chg (found.map D.ray)), some (.val (D.ray r)), some (.val (.int (k : Int)))]) (fun k f hk => by
    have hlt : k < found.length := (List.getElem?_eq_some_iff.mp hk).1
    have c : (k : Int) < (((found.map D.ray).length : Nat) : Int) := by simp; omega
    have i : (found.map D.ray)[k]? = some (D.ray f) := by rw [List.getElem?_map, hk]; rfl
    have i2 := idxM_eq (x := A) (y := some (.val (D.ray r))) (w := w) i (by simp; omega)
    have a := is_ahead_eq w (hf f (List.mem_of_getElem? hk)) hr
    unfold cP
    simp only [fnF, List.length_cons, List.length_nil, Nat.reduceAdd, Nat.reduceSub, if_true, start_eq, List.map_cons, List.map_nil, List.cons_append, List.nil_append, List.append_nil, List.replicate, scons, snil_eq, spass_eq, sasg, sret, sexpr, site, srais, saug, spar2, spar3, xbui, xbin, xcmp, xneg, xidx, xtup, xlst, xcall, xisi, xnot, xand, xor, xife, xtru, xcst, tand, tor, tnot, tyes, acons, anil, xvar, slot_z, slot_s, mslot_z, mslot_s, opt_some, bnd_ok, bu_gcd, Int.natAbs_natCast, setT, List.set_cons_succ, List.set_cons_zero, Option.map_some, small0, small1, small2, small3, idx_tup, idx_lst, at2_0, at2_1, at1_0, bo_add, bo_sub, co_lt, co_le, co_gt, co_ge, co_isN, ne_int, eqc_int, tru_bl, tru_int, tru_non, tru_lst, bu_int, bu_abs, bu_lenT, bu_lenL, bu_tupT, bu_tupL, isi_lt, isi_ll, isi_ii, isi_ib, isi_bi, isi_bb, decide_true, decide_false, Bool.not_true, Bool.not_false, Bool.false_eq_true, if_false, D.isNon, negF, lenM_eq, i2, a, c]) (by
    have c : ¬ ((found.length : Nat) : Int) < (((found.map D.ray).length : Nat) : Int) := by simp
    unfold cP
    simp only [fnF, List.length_cons, List.length_nil, Nat.reduceAdd, Nat.reduceSub, if_true, start_eq, List.map_cons, List.map_nil, List.cons_append, List.nil_append, List.append_nil, List.replicate, scons, snil_eq, spass_eq, sasg, sret, sexpr, site, srais, saug, spar2, spar3, xbui, xbin, xcmp, xneg, xidx, xtup, xlst, xcall, xisi, xnot, xand, xor, xife, xtru, xcst, tand, tor, tnot, tyes, acons, anil, xvar, slot_z, slot_s, mslot_z, mslot_s, opt_some, bnd_ok, bu_gcd, Int.natAbs_natCast, setT, List.set_cons_succ, List.set_cons_zero, Option.map_some, small0, small1, small2, small3, idx_tup, idx_lst, at2_0, at2_1, at1_0, bo_add, bo_sub, co_lt, co_le, co_gt, co_ge, co_isN, ne_int, eqc_int, tru_bl, tru_int, tru_non, tru_lst, bu_int, bu_abs, bu_lenT, bu_lenL, bu_tupT, bu_tupL, isi_lt, isi_ll, isi_ii, isi_ib, isi_bi, isi_bb, decide_true, decide_false, Bool.not_true, Bool.not_false, Bool.false_eq_true, if_false, D.isNon, negF, lenM_eq, c]) (fun k hk => by
    unfold bP
    simp only [fnF, List.length_cons, List.length_nil, Nat.reduceAdd, Nat.reduceSub, if_true, start_eq, List.map_cons, List.map_nil, List.cons_append, List.nil_append, List.append_nil, List.replicate, scons, snil_eq, spass_eq, sasg, sret, sexpr, site, srais, saug, spar2, spar3, xbui, xbin, xcmp, xneg, xidx, xtup, xlst, xcall, xisi, xnot, xand, xor, xife, xtru, xcst, tand, tor, tnot, tyes, acons, anil, xvar, slot_z, slot_s, mslot_z, mslot_s, opt_some, bnd_ok, bu_gcd, Int.natAbs_natCast, setT, List.set_cons_succ, List.set_cons_zero, Option.map_some, small0, small1, small2, small3, idx_tup, idx_lst, at2_0, at2_1, at1_0, bo_add, bo_sub, co_lt, co_le, co_gt, co_ge, co_isN, ne_int, eqc_int, tru_bl, tru_int, tru_non, tru_lst, bu_int, bu_abs, bu_lenT, bu_lenL, bu_tupT, bu_tupL, isi_lt, isi_ll, isi_ii, isi_ib, isi_bi, isi_bb, decide_true, decide_false, Bool.not_true, Bool.not_false, Bool.false_eq_true, if_false, D.isNon, negF]
    rfl) 1000 0 (Nat.zero_le _) (by omega)
  have e3 : swhl 1000 cP bP [A, some (.chg (found.map D.ray)), some (.val (D.ray r)), some (.val (.int ((0 : Nat) : Int)))] w = some (.ok (.nx [A, some (.chg (found.map D.ray)), some (.val (D.ray r)), some (.val (.int ((cnt (fun f => ahead f r) found : Nat) : Int)))]) w) := by
    unfold swhl
    rw [e2, List.drop_zero, Nat.zero_add]
  rw [sc_nx e3]
  have h0 : (0 : Int) ≤ ((cnt (fun f => ahead f r) found : Nat) : Int) := by omega
  have h1 : ((cnt (fun f => ahead f r) found : Nat) : Int) ≤ (((found.map D.ray).length : Nat) : Int) := by
    have := cnt_le (fun f => ahead f r) found
    simp; omega
  have h2 : small ((found.map D.ray).length + 1) = true := small_le (by simp; omega)
  simp only [fnF, List.length_cons, List.length_nil, Nat.reduceAdd, Nat.reduceSub, if_true, start_eq, List.map_cons, List.map_nil, List.cons_append, List.nil_append, List.append_nil, List.replicate, scons, snil_eq, spass_eq, sasg, sret, sexpr, site, srais, saug, spar2, spar3, xbui, xbin, xcmp, xneg, xidx, xtup, xlst, xcall, xisi, xnot, xand, xor, xife, xtru, xcst, tand, tor, tnot, tyes, acons, anil, xvar, slot_z, slot_s, mslot_z, mslot_s, opt_some, bnd_ok, bu_gcd, Int.natAbs_natCast, setT, List.set_cons_succ, List.set_cons_zero, Option.map_some, small0, small1, small2, small3, idx_tup, idx_lst, at2_0, at2_1, at1_0, bo_add, bo_sub, co_lt, co_le, co_gt, co_ge, co_isN, ne_int, eqc_int, tru_bl, tru_int, tru_non, tru_lst, bu_int, bu_abs, bu_lenT, bu_lenL, bu_tupT, bu_tupL, isi_lt, isi_ll, isi_ii, isi_ib, isi_bi, isi_bb, decide_true, decide_false, Bool.not_true, Bool.not_false, Bool.false_eq_true, if_false, D.isNon, negF, sins, h0, h1, h2, Bool.and_self, Int.toNat_natCast, mapIns, insP_idx]
theorem forP (w : Pn) {A : Option Sl} : ∀ (xs acc : List (List Int)) (x y : Option Sl), (∀ r ∈ xs, rayB r = true) → (∀ r ∈ acc, rayB r = true) → acc.length + xs.length ≤ 100 →
    ∃ x' y', forL (.nm 2) (scons (sasg (.nm 3) (xcst (.int 0))) (scons (swhl 1000 cP bP) (scons (sins 1 (xvar 3) (xvar 2)) (snil)))) (xs.map D.ray) [A, some (.chg (acc.map D.ray)), x, y] w = some (.ok (.nx [A, some (.chg ((xs.foldl insP acc).map D.ray)), x', y']) w)
  | [], acc, x, y, _, _, _ => ⟨x, y, rfl⟩
  | r :: xs, acc, x, y, h, ha, hl => by
    rw [List.length_cons] at hl
    have hr := h r List.mem_cons_self
    have e := rowP (A := A) (x := y) w ha hr (by omega)
    obtain ⟨x', y', e2⟩ := forP w xs (insP acc r) (some (.val (D.ray r))) (some (.val (.int ((cnt (fun f => ahead f r) acc : Nat) : Int)))) (fun z hz => h z (List.mem_cons_of_mem _ hz)) (insP_ray ha hr) (by rw [insP_len]; omega)
    refine ⟨x', y', ?_⟩
    rw [List.map_cons, forL]
    show bnd (scons (sasg (.nm 3) (xcst (.int 0))) (scons (swhl 1000 cP bP) (scons (sins 1 (xvar 3) (xvar 2)) (snil))) [A, some (.chg (acc.map D.ray)), some (.val (D.ray r)), y] w) _ = _
    rw [e, bnd_ok]
    exact e2
theorem by_angle_eq {rays : List (List Int)} (w : Pn) (h : ∀ r ∈ rays, rayB r = true) (hl : rays.length ≤ 100) : by_angleF [.tup (rays.map D.ray)] w = some (.ok (.tup ((byP rays).map D.ray)) w) := by
  obtain ⟨x', y', e⟩ := forP (A := some (.val (.tup (rays.map D.ray)))) w rays [] none none h (by simp) (by simpa using hl)
  refine fn_rt rfl ?_
  unfold by_angleB
  have e1 : snew 1 (startE 4 [D.tup (rays.map D.ray)]) w = some (.ok (.nx [some (.val (.tup (rays.map D.ray))), some (.chg []), none, none]) w) := rfl
  rw [sc_nx e1]
  refine (sc_nx (for_of rfl e)).trans ?_
  exact sc_rt rfl
/-! by_angle of the law -/
def cL : TF := tand (xtru (xcmp .lt (xvar 3) (xlenM 1))) (tor (xtru (xcmp .lt (xcall law_halfF (acons (xidxM 1 (xvar 3)) (anil))) (xcall law_halfF (acons (xvar 2) (anil))))) (tand (xtru (xcmp .eq (xcall law_halfF (acons (xidxM 1 (xvar 3)) (anil))) (xcall law_halfF (acons (xvar 2) (anil))))) (xtru (xcmp .gt (xcall law_turnF (acons (xidxM 1 (xvar 3)) (acons (xvar 2) (anil)))) (xcst (.int 0))))))
def bL : SF := scons (sasg (.nm 3) (xbin .add (xvar 3) (xcst (.int 1)))) (snil)
def iL : SF := site (tor (xtru (xcmp .eq (xvar 3) (xlenM 1))) (xtru (xcmp .ne (xidxM 1 (xvar 3)) (xvar 2)))) (scons (sins 1 (xvar 3) (xvar 2)) (snil)) (snil)
theorem rowL {found : List (List Int)} {r : List Int} {A : Option Sl} {x : Option Sl} (w : Pn) (hf : ∀ x ∈ found, rayB x = true) (hr : rayB r = true) (hl : found.length ≤ 100) :
    scons (sasg (.nm 3) (xcst (.int 0))) (scons (swhl 1000 cL bL) (scons iL (snil))) [A, some (.chg (found.map D.ray)), some (.val (D.ray r)), x] w
      = some (.ok (.nx [A, some (.chg ((insD found r).map D.ray)), some (.val (D.ray r)), some (.val (.int ((cnt (fun f => ltD f r) found : Nat) : Int)))]) w) := by
  have e1 : sasg (.nm 3) (xcst (.int 0)) [A, some (.chg (found.map D.ray)), some (.val (D.ray r)), x] w = some (.ok (.nx [A, some (.chg (found.map D.ray)), some (.val (D.ray r)), some (.val (.int ((0 : Nat) : Int)))]) w) := rfl
  rw [sc_nx e1]
  have e2 := whl_cnt (C := cL) (B := bL) (w := w) (fun f => ltD f r) found (fun k => [A, some (.chg (found.map D.ray)), some (.val (D.ray r)), some (.val (.int (k : Int)))]) (fun k f hk => by
    have hlt : k < found.length := (List.getElem?_eq_some_iff.mp hk).1
    have c : (k : Int) < (((found.map D.ray).length : Nat) : Int) := by simp; omega
    have i : (found.map D.ray)[k]? = some (D.ray f) := by rw [List.getElem?_map, hk]; rfl
    have i2 := idxM_eq (x := A) (y := some (.val (D.ray r))) (w := w) i (by simp; omega)
    have hf1 := hf f (List.mem_of_getElem? hk)
    have a1 := law_half_eq w hf1
    have a2 := law_half_eq w hr
    have a3 := law_turn_r w hf1 hr
    have e0 : (halfI f == halfI r) = decide (halfI f = halfI r) := by rw [Bool.eq_iff_iff]; simp
    unfold cL ltD
    by_cases h1 : halfI f < halfI r
    · simp only [fnF, List.length_cons, List.length_nil, Nat.reduceAdd, Nat.reduceSub, if_true, start_eq, List.map_cons, List.map_nil, List.cons_append, List.nil_append, List.append_nil, List.replicate, scons, snil_eq, spass_eq, sasg, sret, sexpr, site, srais, saug, spar2, spar3, xbui, xbin, xcmp, xneg, xidx, xtup, xlst, xcall, xisi, xnot, xand, xor, xife, xtru, xcst, tand, tor, tnot, tyes, acons, anil, xvar, slot_z, slot_s, mslot_z, mslot_s, opt_some, bnd_ok, bu_gcd, Int.natAbs_natCast, setT, List.set_cons_succ, List.set_cons_zero, Option.map_some, small0, small1, small2, small3, idx_tup, idx_lst, at2_0, at2_1, at1_0, bo_add, bo_sub, co_lt, co_le, co_gt, co_ge, co_isN, ne_int, eqc_int, tru_bl, tru_int, tru_non, tru_lst, bu_int, bu_abs, bu_lenT, bu_lenL, bu_tupT, bu_tupL, isi_lt, isi_ll, isi_ii, isi_ib, isi_bi, isi_bb, decide_true, decide_false, Bool.not_true, Bool.not_false, Bool.false_eq_true, if_false, D.isNon, negF, lenM_eq, i2, a1, a2, a3, c, h1, Bool.true_or]
    · by_cases h2 : halfI f = halfI r
      · simp only [fnF, List.length_cons, List.length_nil, Nat.reduceAdd, Nat.reduceSub, if_true, start_eq, List.map_cons, List.map_nil, List.cons_append, List.nil_append, List.append_nil, List.replicate, scons, snil_eq, spass_eq, sasg, sret, sexpr, site, srais, saug, spar2, spar3, xbui, xbin, xcmp, xneg, xidx, xtup, xlst, xcall, xisi, xnot, xand, xor, xife, xtru, xcst, tand, tor, tnot, tyes, acons, anil, xvar, slot_z, slot_s, mslot_z, mslot_s, opt_some, bnd_ok, bu_gcd, Int.natAbs_natCast, setT, List.set_cons_succ, List.set_cons_zero, Option.map_some, small0, small1, small2, small3, idx_tup, idx_lst, at2_0, at2_1, at1_0, bo_add, bo_sub, co_lt, co_le, co_gt, co_ge, co_isN, ne_int, eqc_int, tru_bl, tru_int, tru_non, tru_lst, bu_int, bu_abs, bu_lenT, bu_lenL, bu_tupT, bu_tupL, isi_lt, isi_ll, isi_ii, isi_ib, isi_bi, isi_bb, decide_true, decide_false, Bool.not_true, Bool.not_false, Bool.false_eq_true, if_false, D.isNon, negF, lenM_eq, i2, a1, a2, a3, c, h1, e0, h2, Bool.false_or, Bool.true_and, Int.lt_irrefl, beq_self_eq_true]
      · simp only [fnF, List.length_cons, List.length_nil, Nat.reduceAdd, Nat.reduceSub, if_true, start_eq, List.map_cons, List.map_nil, List.cons_append, List.nil_append, List.append_nil, List.replicate, scons, snil_eq, spass_eq, sasg, sret, sexpr, site, srais, saug, spar2, spar3, xbui, xbin, xcmp, xneg, xidx, xtup, xlst, xcall, xisi, xnot, xand, xor, xife, xtru, xcst, tand, tor, tnot, tyes, acons, anil, xvar, slot_z, slot_s, mslot_z, mslot_s, opt_some, bnd_ok, bu_gcd, Int.natAbs_natCast, setT, List.set_cons_succ, List.set_cons_zero, Option.map_some, small0, small1, small2, small3, idx_tup, idx_lst, at2_0, at2_1, at1_0, bo_add, bo_sub, co_lt, co_le, co_gt, co_ge, co_isN, ne_int, eqc_int, tru_bl, tru_int, tru_non, tru_lst, bu_int, bu_abs, bu_lenT, bu_lenL, bu_tupT, bu_tupL, isi_lt, isi_ll, isi_ii, isi_ib, isi_bi, isi_bb, decide_true, decide_false, Bool.not_true, Bool.not_false, Bool.false_eq_true, if_false, D.isNon, negF, lenM_eq, i2, a1, a2, a3, c, h1, e0, h2, Bool.false_or, Bool.false_and]) (by
    have c : ¬ ((found.length : Nat) : Int) < (((found.map D.ray).length : Nat) : Int) := by simp
    unfold cL
    simp only [fnF, List.length_cons, List.length_nil, Nat.reduceAdd, Nat.reduceSub, if_true, start_eq, List.map_cons, List.map_nil, List.cons_append, List.nil_append, List.append_nil, List.replicate, scons, snil_eq, spass_eq, sasg, sret, sexpr, site, srais, saug, spar2, spar3, xbui, xbin, xcmp, xneg, xidx, xtup, xlst, xcall, xisi, xnot, xand, xor, xife, xtru, xcst, tand, tor, tnot, tyes, acons, anil, xvar, slot_z, slot_s, mslot_z, mslot_s, opt_some, bnd_ok, bu_gcd, Int.natAbs_natCast, setT, List.set_cons_succ, List.set_cons_zero, Option.map_some, small0, small1, small2, small3, idx_tup, idx_lst, at2_0, at2_1, at1_0, bo_add, bo_sub, co_lt, co_le, co_gt, co_ge, co_isN, ne_int, eqc_int, tru_bl, tru_int, tru_non, tru_lst, bu_int, bu_abs, bu_lenT, bu_lenL, bu_tupT, bu_tupL, isi_lt, isi_ll, isi_ii, isi_ib, isi_bi, isi_bb, decide_true, decide_false, Bool.not_true, Bool.not_false, Bool.false_eq_true, if_false, D.isNon, negF, lenM_eq, c]) (fun k hk => by
    unfold bL
    simp only [fnF, List.length_cons, List.length_nil, Nat.reduceAdd, Nat.reduceSub, if_true, start_eq, List.map_cons, List.map_nil, List.cons_append, List.nil_append, List.append_nil, List.replicate, scons, snil_eq, spass_eq, sasg, sret, sexpr, site, srais, saug, spar2, spar3, xbui, xbin, xcmp, xneg, xidx, xtup, xlst, xcall, xisi, xnot, xand, xor, xife, xtru, xcst, tand, tor, tnot, tyes, acons, anil, xvar, slot_z, slot_s, mslot_z, mslot_s, opt_some, bnd_ok, bu_gcd, Int.natAbs_natCast, setT, List.set_cons_succ, List.set_cons_zero, Option.map_some, small0, small1, small2, small3, idx_tup, idx_lst, at2_0, at2_1, at1_0, bo_add, bo_sub, co_lt, co_le, co_gt, co_ge, co_isN, ne_int, eqc_int, tru_bl, tru_int, tru_non, tru_lst, bu_int, bu_abs, bu_lenT, bu_lenL, bu_tupT, bu_tupL, isi_lt, isi_ll, isi_ii, isi_ib, isi_bi, isi_bb, decide_true, decide_false, Bool.not_true, Bool.not_false, Bool.false_eq_true, if_false, D.isNon, negF]
    rfl) 1000 0 (Nat.zero_le _) (by omega)
  have e3 : swhl 1000 cL bL [A, some (.chg (found.map D.ray)), some (.val (D.ray r)), some (.val (.int ((0 : Nat) : Int)))] w = some (.ok (.nx [A, some (.chg (found.map D.ray)), some (.val (D.ray r)), some (.val (.int ((cnt (fun f => ltD f r) found : Nat) : Int)))]) w) := by
    unfold swhl
    rw [e2, List.drop_zero, Nat.zero_add]
  rw [sc_nx e3]
  have hc := cnt_le (fun f => ltD f r) found
  have hid := insD_idx r found
  generalize hk : cnt (fun f => ltD f r) found = k at *
  have h0 : (0 : Int) ≤ ((k : Nat) : Int) := by omega
  have h1 : ((k : Nat) : Int) ≤ (((found.map D.ray).length : Nat) : Int) := by simp; omega
  have h2 : small ((found.map D.ray).length + 1) = true := small_le (by simp; omega)
  have e0 : (((k : Nat) : Int) == (((found.map D.ray).length : Nat) : Int)) = decide (k = found.length) := by rw [Bool.eq_iff_iff]; simp; omega
  unfold iL
  by_cases c1 : k = found.length
  · rw [if_pos (.inl c1)] at hid
    rw [hid]
    simp only [fnF, List.length_cons, List.length_nil, Nat.reduceAdd, Nat.reduceSub, if_true, start_eq, List.map_cons, List.map_nil, List.cons_append, List.nil_append, List.append_nil, List.replicate, scons, snil_eq, spass_eq, sasg, sret, sexpr, site, srais, saug, spar2, spar3, xbui, xbin, xcmp, xneg, xidx, xtup, xlst, xcall, xisi, xnot, xand, xor, xife, xtru, xcst, tand, tor, tnot, tyes, acons, anil, xvar, slot_z, slot_s, mslot_z, mslot_s, opt_some, bnd_ok, bu_gcd, Int.natAbs_natCast, setT, List.set_cons_succ, List.set_cons_zero, Option.map_some, small0, small1, small2, small3, idx_tup, idx_lst, at2_0, at2_1, at1_0, bo_add, bo_sub, co_lt, co_le, co_gt, co_ge, co_isN, ne_int, eqc_int, tru_bl, tru_int, tru_non, tru_lst, bu_int, bu_abs, bu_lenT, bu_lenL, bu_tupT, bu_tupL, isi_lt, isi_ll, isi_ii, isi_ib, isi_bi, isi_bb, decide_true, decide_false, Bool.not_true, Bool.not_false, Bool.false_eq_true, if_false, D.isNon, negF, sins, lenM_eq, h0, h1, h2, Bool.and_self, Int.toNat_natCast, mapIns, e0, c1]
    simp [small_le (show found.length + 1 ≤ 1000000 by omega), mapIns]
  · have hlt : k < found.length := by omega
    have hx : found[k]? = some found[k] := List.getElem?_eq_getElem hlt
    have i : (found.map D.ray)[k]? = some (D.ray found[k]) := by rw [List.getElem?_map, hx]; rfl
    have i2 := idxM_eq (x := A) (y := some (.val (D.ray r))) (w := w) i (by simp; omega)
    by_cases c2 : found[k] = r
    · have : ¬ (k = found.length ∨ found[k]? ≠ some r) := by
        rintro (z | z)
        · exact c1 z
        · exact z (by rw [hx, c2])
      rw [if_neg this] at hid
      rw [hid]
      have n := ne_ray found[k] r
      rw [c2] at n
      rw [c2] at i2
      simp only [fnF, List.length_cons, List.length_nil, Nat.reduceAdd, Nat.reduceSub, if_true, start_eq, List.map_cons, List.map_nil, List.cons_append, List.nil_append, List.append_nil, List.replicate, scons, snil_eq, spass_eq, sasg, sret, sexpr, site, srais, saug, spar2, spar3, xbui, xbin, xcmp, xneg, xidx, xtup, xlst, xcall, xisi, xnot, xand, xor, xife, xtru, xcst, tand, tor, tnot, tyes, acons, anil, xvar, slot_z, slot_s, mslot_z, mslot_s, opt_some, bnd_ok, bu_gcd, Int.natAbs_natCast, setT, List.set_cons_succ, List.set_cons_zero, Option.map_some, small0, small1, small2, small3, idx_tup, idx_lst, at2_0, at2_1, at1_0, bo_add, bo_sub, co_lt, co_le, co_gt, co_ge, co_isN, ne_int, eqc_int, tru_bl, tru_int, tru_non, tru_lst, bu_int, bu_abs, bu_lenT, bu_lenL, bu_tupT, bu_tupL, isi_lt, isi_ll, isi_ii, isi_ib, isi_bi, isi_bb, decide_true, decide_false, Bool.not_true, Bool.not_false, Bool.false_eq_true, if_false, D.isNon, negF, lenM_eq, e0, c1, i2, n]
    · have : k = found.length ∨ found[k]? ≠ some r := .inr fun z => c2 (by rw [hx] at z; exact Option.some.inj z)
      rw [if_pos this] at hid
      rw [hid]
      have n := ne_ray found[k] r
      simp only [fnF, List.length_cons, List.length_nil, Nat.reduceAdd, Nat.reduceSub, if_true, start_eq, List.map_cons, List.map_nil, List.cons_append, List.nil_append, List.append_nil, List.replicate, scons, snil_eq, spass_eq, sasg, sret, sexpr, site, srais, saug, spar2, spar3, xbui, xbin, xcmp, xneg, xidx, xtup, xlst, xcall, xisi, xnot, xand, xor, xife, xtru, xcst, tand, tor, tnot, tyes, acons, anil, xvar, slot_z, slot_s, mslot_z, mslot_s, opt_some, bnd_ok, bu_gcd, Int.natAbs_natCast, setT, List.set_cons_succ, List.set_cons_zero, Option.map_some, small0, small1, small2, small3, idx_tup, idx_lst, at2_0, at2_1, at1_0, bo_add, bo_sub, co_lt, co_le, co_gt, co_ge, co_isN, ne_int, eqc_int, tru_bl, tru_int, tru_non, tru_lst, bu_int, bu_abs, bu_lenT, bu_lenL, bu_tupT, bu_tupL, isi_lt, isi_ll, isi_ii, isi_ib, isi_bi, isi_bb, decide_true, decide_false, Bool.not_true, Bool.not_false, Bool.false_eq_true, if_false, D.isNon, negF, lenM_eq, e0, c1, i2, n, c2, sins, h0, h1, h2, Bool.and_self, Int.toNat_natCast, mapIns]
theorem forLw (w : Pn) {A : Option Sl} : ∀ (xs acc : List (List Int)) (x y : Option Sl), (∀ r ∈ xs, rayB r = true) → (∀ r ∈ acc, rayB r = true) → acc.length + xs.length ≤ 100 →
    ∃ x' y', forL (.nm 2) (scons (sasg (.nm 3) (xcst (.int 0))) (scons (swhl 1000 cL bL) (scons iL (snil)))) (xs.map D.ray) [A, some (.chg (acc.map D.ray)), x, y] w = some (.ok (.nx [A, some (.chg ((xs.foldl insD acc).map D.ray)), x', y']) w)
  | [], acc, x, y, _, _, _ => ⟨x, y, rfl⟩
  | r :: xs, acc, x, y, h, ha, hl => by
    rw [List.length_cons] at hl
    have hr := h r List.mem_cons_self
    have e := rowL (A := A) (x := y) w ha hr (by omega)
    have hle := insD_len r acc
    obtain ⟨x', y', e2⟩ := forLw w xs (insD acc r) (some (.val (D.ray r))) (some (.val (.int ((cnt (fun f => ltD f r) acc : Nat) : Int)))) (fun z hz => h z (List.mem_cons_of_mem _ hz)) (insD_ray ha hr) (by omega)
    refine ⟨x', y', ?_⟩
    rw [List.map_cons, forL]
    show bnd (scons (sasg (.nm 3) (xcst (.int 0))) (scons (swhl 1000 cL bL) (scons iL (snil))) [A, some (.chg (acc.map D.ray)), some (.val (D.ray r)), y] w) _ = _
    rw [e, bnd_ok]
    exact e2
theorem law_by_angle_eq {rays : List (List Int)} (w : Pn) (h : ∀ r ∈ rays, rayB r = true) (hl : rays.length ≤ 100) : law_by_angleF [.lst (rays.map D.ray)] w = some (.ok (.lst ((rays.foldl insD []).map D.ray)) w) := by
  obtain ⟨x', y', e⟩ := forLw (A := some (.val (.lst (rays.map D.ray)))) w rays [] none none h (by simp) (by simpa using hl)
  refine fn_rt rfl ?_
  unfold law_by_angleB
  have e1 : snew 1 (startE 4 [D.lst (rays.map D.ray)]) w = some (.ok (.nx [some (.val (.lst (rays.map D.ray))), some (.chg []), none, none]) w) := rfl
  rw [sc_nx e1]
  refine (sc_nx (for_of rfl e)).trans ?_
  exact sc_rt rfl
end Rh
set_option Elab.async false
set_option linter.all false
set_option maxRecDepth 100000
set_option maxHeartbeats 4000000
/-! Rh: are_round, all of it. -/
namespace Rh
open PySem L2
theorem round_el {R N : D} {z : Nat} {w : Pn} {v : Int} {d : D} (e : bulgeF [R, d, N] w = some (.ok (.int v) w)) (hv : 0 ≤ v) :
    xcmp .ge (xcall bulgeF (acons (xvar 0) (acons (xvar 2) (acons (xvar 1) anil)))) (xcst (.int 0)) [some (.val R), some (.val N), some (.val d)] w = some (.ok (.bl true) w) := by
  simp only [fnF, List.length_cons, List.length_nil, Nat.reduceAdd, Nat.reduceSub, if_true, start_eq, List.map_cons, List.map_nil, List.cons_append, List.nil_append, List.append_nil, List.replicate, scons, snil_eq, spass_eq, sasg, sret, sexpr, site, srais, saug, spar2, spar3, xbui, xbin, xcmp, xneg, xidx, xtup, xlst, xcall, xisi, xnot, xand, xor, xife, xtru, xcst, tand, tor, tnot, tyes, acons, anil, xvar, slot_z, slot_s, mslot_z, mslot_s, opt_some, bnd_ok, bu_gcd, Int.natAbs_natCast, setT, List.set_cons_succ, List.set_cons_zero, Option.map_some, small0, small1, small2, small3, idx_tup, idx_lst, at2_0, at2_1, at1_0, bo_add, bo_sub, co_lt, co_le, co_gt, co_ge, co_isN, ne_int, eqc_int, tru_bl, tru_int, tru_non, tru_lst, bu_int, bu_abs, bu_lenT, bu_lenL, bu_tupT, bu_tupL, isi_lt, isi_ll, isi_ii, isi_ib, isi_bi, isi_bb, decide_true, decide_false, Bool.not_true, Bool.not_false, Bool.false_eq_true, if_false, D.isNon, negF, e, hv]
theorem round_comp {R N : D} {m : Nat} {w : Pn} (t : threesF [R] w = some (.ok (.lst ((List.range m).map (three m))) w)) (hm : m ≤ 1000) (b : ∀ i, i < m → ∃ v : Int, 0 ≤ v ∧ bulgeF [R, three m i, N] w = some (.ok (.int v) w)) :
    xcomp [2] (.nm 2) (srcSeq (xcall threesF (acons (xvar 0) anil))) tyes (xcmp .ge (xcall bulgeF (acons (xvar 0) (acons (xvar 2) (acons (xvar 1) anil)))) (xcst (.int 0))) [some (.val R), some (.val N), none] w = some (.ok (.lst ((List.range m).map fun _ => D.bl true)) w) := by
  refine comp_of (List.range m) (three m) (fun _ => .bl true) ?_ (fun i hi => ?_) (by rw [List.length_range]; omega)
  · have e1 : xcall threesF (acons (xvar 0) anil) [some (.val R), some (.val N), none] w = some (.ok (.lst ((List.range m).map (three m))) w) := call_ok (ds := [R]) rfl t
    unfold srcSeq
    rw [e1]; rfl
  · obtain ⟨v, hv, e⟩ := b i (List.mem_range.mp hi)
    exact ⟨[some (.val R), some (.val N), some (.val (three m i))], rfl, round_el (z := 0) e hv⟩
theorem are_round_f {R N d : D} {b : D} {w : Pn} {L : List D} (g0 : idxF R (.int 0) = some d) (l2 : buF .len [d] = some (.int 2)) (e : xcomp [2] (.nm 2) (srcSeq (xcall threesF (acons (xvar 0) anil))) tyes (xcmp .ge (xcall bulgeF (acons (xvar 0) (acons (xvar 2) (acons (xvar 1) anil)))) (xcst (.int 0))) [some (.val R), some (.val N), none] w = some (.ok (.lst L) w)) (al : buF .all [.lst L] = some b) :
    are_roundF [R, N] w = some (.ok b w) := by
  refine fn_rt rfl ?_
  unfold are_roundB
  have c1 : xtru (xcmp .eq (xbui .len (acons (xidx (xvar 0) (xcst (.int 0))) anil)) (xcst (.int 1))) [some (.val R), some (.val N), none] w = some (.ok false w) := by
    have ne : ((2 : Int) == 1) = false := rfl
    simp only [xtru, xcmp, xbui, acons, anil, xidx, xvar, xcst, slot_z, opt_some, bnd_ok, g0, l2, eqc_int, ne, tru_bl]
  have c2 : xbui .all (acons (xcomp [2] (.nm 2) (srcSeq (xcall threesF (acons (xvar 0) anil))) tyes (xcmp .ge (xcall bulgeF (acons (xvar 0) (acons (xvar 2) (acons (xvar 1) anil)))) (xcst (.int 0)))) anil) [some (.val R), some (.val N), none] w = some (.ok b w) := bui_ok (args_1 e) al
  refine (sc_nx (if_no (a := scons _ snil) (b := snil) c1)).trans ?_
  exact sc_rt (ret_ok c2)
theorem are_round_t {z : Nat} {rays : List (List Int)} {ts : List Int} {m : Nat} (w : Pn) (hm : rays.length = m) (h0 : 0 < m) (h2 : m ≤ 1000) (h3 : ts.length = m) (s : ∀ r ∈ rays, RayOk 2 r) (st : ∀ t ∈ ts, Sz z t) (hz : z ≤ 100000)
    (H : ∀ i, i < m → ∀ a b c d e f t1 t2 t3 : Int, rays[i]? = some [a, b] → rays[(i + 1) % m]? = some [c, d] → rays[(i + 2) % m]? = some [e, f] → ts[i]? = some t1 → ts[(i + 1) % m]? = some t2 → ts[(i + 2) % m]? = some t3 → 0 ≤ (c * f - d * e) * t1 + (a * d - b * c) * t3 - (a * f - b * e) * t2) :
    are_roundF [.tup (rays.map D.ray), .lst (ts.map .int)] w = some (.ok (.bl true) w) := by
  have get : ∀ j, j < m → ∃ a b, rays[j]? = some [a, b] := fun j hj => by
    have e : rays[j]? = some rays[j] := List.getElem?_eq_getElem (by omega)
    obtain ⟨a, b, e2⟩ := two_len (s _ (List.getElem_mem (by omega : j < rays.length))).len
    exact ⟨a, b, by rw [e, e2]⟩
  have gett : ∀ j, j < m → ∃ t, ts[j]? = some t := fun j hj => ⟨ts[j]'(by omega), List.getElem?_eq_getElem (by omega)⟩
  have t := threes_eq w (rays := rays) (by omega) (by omega)
  rw [hm] at t
  have e := round_comp (N := .lst (ts.map .int)) t h2 fun i hi => by
    obtain ⟨a, b, r1⟩ := get i hi
    obtain ⟨c, d, r2⟩ := get ((i + 1) % m) (Nat.mod_lt _ h0)
    obtain ⟨e, f, r3⟩ := get ((i + 2) % m) (Nat.mod_lt _ h0)
    obtain ⟨t1, u1⟩ := gett i hi
    obtain ⟨t2, u2⟩ := gett ((i + 1) % m) (Nat.mod_lt _ h0)
    obtain ⟨t3, u3⟩ := gett ((i + 2) % m) (Nat.mod_lt _ h0)
    exact ⟨_, H i hi a b c d e f t1 t2 t3 r1 r2 r3 u1 u2 u3, bulge_eq w hm h2 h3 r1 r2 r3 u1 u2 u3 s st hz⟩
  have al := bools_all (fun _ : Nat => D.bl true) (List.range m) fun _ _ => rfl
  obtain ⟨a, b, r0⟩ := get 0 h0
  have g0 : idxF (.tup (rays.map D.ray)) (.int 0) = some (D.ray [a, b]) := at_nat (i := 0) (by rw [List.getElem?_map, r0]; rfl) (by rw [List.length_map]; omega)
  exact are_round_f g0 rfl e al
end Rh
set_option Elab.async false
set_option linter.all false
set_option maxRecDepth 100000
set_option maxHeartbeats 4000000
/-! Rh: fixed; rows; are_rays. -/
namespace Rh
open PySem L2
/-! ### fixed -/
theorem fixL_map {α : Type} {f : D → Option D} (h g : α → D) : ∀ (l : List α) (acc : List D), (∀ x ∈ l, f (h x) = some (g x)) → acc.length + l.length ≤ 1000000 → fixL f (l.map h) acc = some (acc ++ l.map g)
  | [], acc, _, _ => by simp [fixL]
  | x :: r, acc, k, hl => by
    rw [List.length_cons] at hl
    rw [List.map_cons, fixL, k x List.mem_cons_self]
    simp only []
    rw [if_pos (small_le (by omega)), fixL_map h g r _ (fun y hy => k y (List.mem_cons_of_mem _ hy)) (by simp; omega)]
    simp
theorem fix_tup {α : Type} {n : Nat} {h g : α → D} {l : List α} (k : ∀ x ∈ l, fixV n (h x) = some (g x)) (hl : l.length ≤ 1000000) : fixV (n + 1) (.tup (l.map h)) = some (.tup (l.map g)) := by
  rw [fixV, fixL_map h g l [] k (by simpa using hl)]; rfl
theorem fix_lst {α : Type} {n : Nat} {h g : α → D} {l : List α} (k : ∀ x ∈ l, fixV n (h x) = some (g x)) (hl : l.length ≤ 1000000) : fixV (n + 1) (.lst (l.map h)) = some (.tup (l.map g)) := by
  rw [fixV, fixL_map h g l [] k (by simpa using hl)]; rfl
theorem fix_ray {n : Nat} {r : List Int} (hl : r.length ≤ 1000000) : fixV (n + 2) (D.ray r) = some (D.ray r) := fix_tup (fun _ _ => rfl) hl
theorem fix_rat {n : Nat} (q : Rat) : fixV (n + 2) (D.rat q) = some (D.rat q) := rfl
theorem fixed_of {n : Nat} {d e : D} {w : Pn} (h : fixV n d = some e) : fixedF n [d] w = some (.ok e w) := by rw [fixedF_eq, h]; rfl
def vLots (R N : D) : D := .ins 1 [.str "lots", .tup [R, N], R, N]
theorem mk_lots {x y x' y' : D} {w : Pn} (hx : fixV 7 x = some x') (hy : fixV 7 y = some y') : mkLotsF (fixedF 8) x y w = some (.ok (vLots x' y') w) := by
  have h : fixV 8 (.tup [x, y]) = some (.tup [x', y']) := by
    rw [fixV, fixL, hx]
    simp only []
    rw [if_pos (show small (([] : List D).length + 1) = true from small1), fixL, hy]
    rfl
  unfold mkLotsF
  rw [fixed_of h]; rfl
theorem lots_ok2 {a b : XF} {σ : En} {w w1 w2 : Pn} {x y x' y' : D} (ha : a σ w = some (.ok x w1)) (hb : b σ w1 = some (.ok y w2)) (hx : fixV 7 x = some x') (hy : fixV 7 y = some y') : xlots (fixedF 8) a b σ w = some (.ok (vLots x' y') w2) := by
  unfold xlots
  rw [ha, bnd_ok, hb, bnd_ok]
  exact mk_lots hx hy
/-! ### rows of ints -/
theorem is_row_eq {r : List Int} {k : Nat} (w : Pn) (hr : r.length = k) (hk : k ≤ 1000) : dflF 2 is_rowF [D.ray r, .int (k : Int)] w = some (.ok (.bl true) w) := by
  show is_rowF [D.ray r, .int (k : Int), .non, .non] w = _
  have e := comp_of (σ := [some (.val (D.ray r)), some (.val (.int (k : Int))), some (.val .non), some (.val .non), none]) (own := [4]) (t := .nm 4) (s := srcSeq (xvar 0)) (e := xcall is_withinF (acons (xvar 4) (acons (xvar 2) (acons (xvar 3) (anil))))) (w := w) r .int (fun _ => .bl true) rfl
    (fun i hi => ⟨[some (.val (D.ray r)), some (.val (.int (k : Int))), some (.val .non), some (.val .non), some (.val (.int i))], rfl, call_ok (ds := [.int i, .non, .non]) rfl (is_within_nn i w)⟩) (by omega)
  have al := bools_all (fun _ : Int => D.bl true) r fun _ _ => rfl
  have el : buF .len [D.ray r] = some (.int (k : Int)) := by
    show some (D.int ((r.map D.int).length : Nat)) = _
    rw [List.length_map, hr]
  have e1 : xcall is_listedF (acons (xvar 0) (anil)) [some (.val (D.ray r)), some (.val (.int (k : Int))), some (.val .non), some (.val .non), none] w = some (.ok (.bl true) w) := call_ok (ds := [D.ray r]) rfl (is_listed_t _ w)
  have e2 := bui_ok (args_1 e) al
  refine fn_rt rfl ?_
  unfold is_rowB
  refine sc_rt (ret_ok ?_)
  have st : startE 5 [D.ray r, .int (k : Int), .non, .non] = [some (.val (D.ray r)), some (.val (.int (k : Int))), some (.val .non), some (.val .non), none] := rfl
  rw [st]
  simp only [fnF, List.length_cons, List.length_nil, Nat.reduceAdd, Nat.reduceSub, if_true, start_eq, List.map_cons, List.map_nil, List.cons_append, List.nil_append, List.append_nil, List.replicate, scons, snil_eq, spass_eq, sasg, sret, sexpr, site, srais, saug, spar2, spar3, xbui, xbin, xcmp, xneg, xidx, xtup, xlst, xcall, xisi, xnot, xand, xor, xife, xtru, xcst, tand, tor, tnot, tyes, acons, anil, xvar, slot_z, slot_s, mslot_z, mslot_s, opt_some, bnd_ok, bu_gcd, Int.natAbs_natCast, setT, List.set_cons_succ, List.set_cons_zero, Option.map_some, small0, small1, small2, small3, idx_tup, idx_lst, at2_0, at2_1, at1_0, bo_add, bo_sub, co_lt, co_le, co_gt, co_ge, co_isN, ne_int, eqc_int, tru_bl, tru_int, tru_non, tru_lst, bu_int, bu_abs, bu_lenT, bu_lenL, bu_tupT, bu_tupL, isi_lt, isi_ll, isi_ii, isi_ib, isi_bi, isi_bb, decide_true, decide_false, Bool.not_true, Bool.not_false, Bool.false_eq_true, if_false, D.isNon, negF, e1, el, beq_self_eq_true, e2]
  exact e2
theorem is_lowest_2 {a b : Int} (w : Pn) (h : Nat.gcd a.natAbs b.natAbs = 1) : is_lowestF [D.ray [a, b]] w = some (.ok (.bl true) w) := by
  have s : seqOf (D.ray [a, b]) = some [.int a, .int b] := rfl
  have g : ((0 : Int).natAbs.gcd a.natAbs) = a.natAbs := Nat.gcd_zero_left _
  have e : ((1 : Nat) : Int) == 1 := rfl
  simp only [fnF, List.length_cons, List.length_nil, Nat.reduceAdd, Nat.reduceSub, if_true, start_eq, List.map_cons, List.map_nil, List.cons_append, List.nil_append, List.append_nil, List.replicate, scons, snil_eq, spass_eq, sasg, sret, sexpr, site, srais, saug, spar2, spar3, xbui, xbin, xcmp, xneg, xidx, xtup, xlst, xcall, xisi, xnot, xand, xor, xife, xtru, xcst, tand, tor, tnot, tyes, acons, anil, xvar, slot_z, slot_s, mslot_z, mslot_s, opt_some, bnd_ok, bu_gcd, Int.natAbs_natCast, setT, List.set_cons_succ, List.set_cons_zero, Option.map_some, small0, small1, small2, small3, idx_tup, idx_lst, at2_0, at2_1, at1_0, bo_add, bo_sub, co_lt, co_le, co_gt, co_ge, co_isN, ne_int, eqc_int, tru_bl, tru_int, tru_non, tru_lst, bu_int, bu_abs, bu_lenT, bu_lenL, bu_tupT, bu_tupL, isi_lt, isi_ll, isi_ii, isi_ib, isi_bi, isi_bb, decide_true, decide_false, Bool.not_true, Bool.not_false, Bool.false_eq_true, if_false, D.isNon, negF, is_lowestF, is_lowestB, sfor, srcSeq, s, forL, g, h, e]
theorem row_low {r : List Int} (w : Pn) (h : rayB r = true) (σ : En) (hσ : ∃ x y z u, σ = [x, some (.val (.int 2)), some (.val (D.ray r)), y, z, u]) : xand (xcall (dflF 2 is_rowF) (acons (xvar 2) (acons (xvar 1) (anil)))) (xcall is_lowestF (acons (xvar 2) (anil))) σ w = some (.ok (.bl true) w) := by
  obtain ⟨x, y, z, u, rfl⟩ := hσ
  obtain ⟨a, b, rfl, _, _, g⟩ := rayB_ok h
  have e1 := is_row_eq (r := [a, b]) (k := 2) w rfl (by decide)
  have e2 := is_lowest_2 w g
  have c : ((2 : Nat) : Int) = 2 := rfl
  rw [c] at e1
  simp only [fnF, List.length_cons, List.length_nil, Nat.reduceAdd, Nat.reduceSub, if_true, start_eq, List.map_cons, List.map_nil, List.cons_append, List.nil_append, List.append_nil, List.replicate, scons, snil_eq, spass_eq, sasg, sret, sexpr, site, srais, saug, spar2, spar3, xbui, xbin, xcmp, xneg, xidx, xtup, xlst, xcall, xisi, xnot, xand, xor, xife, xtru, xcst, tand, tor, tnot, tyes, acons, anil, xvar, slot_z, slot_s, mslot_z, mslot_s, opt_some, bnd_ok, bu_gcd, Int.natAbs_natCast, setT, List.set_cons_succ, List.set_cons_zero, Option.map_some, small0, small1, small2, small3, idx_tup, idx_lst, at2_0, at2_1, at1_0, bo_add, bo_sub, co_lt, co_le, co_gt, co_ge, co_isN, ne_int, eqc_int, tru_bl, tru_int, tru_non, tru_lst, bu_int, bu_abs, bu_lenT, bu_lenL, bu_tupT, bu_tupL, isi_lt, isi_ll, isi_ii, isi_ib, isi_bi, isi_bb, decide_true, decide_false, Bool.not_true, Bool.not_false, Bool.false_eq_true, if_false, D.isNon, negF, e1, e2]
def aRow : XF := xcomp [2] (.nm 2) (srcSeq (xvar 0)) (tyes) (xand (xcall (dflF 2 is_rowF) (acons (xvar 2) (acons (xvar 1) (anil)))) (xcall is_lowestF (acons (xvar 2) (anil))))
theorem rows_all {rays : List (List Int)} (w : Pn) (h : ∀ r ∈ rays, rayB r = true) (hl : rays.length ≤ 1000) : aRow [some (.val (.tup (rays.map D.ray))), some (.val (.int 2)), none, none, none, none] w = some (.ok (.lst (rays.map fun _ => .bl true)) w) :=
  comp_of rays D.ray (fun _ => .bl true) rfl (fun r hr => ⟨[some (.val (.tup (rays.map D.ray))), some (.val (.int 2)), some (.val (D.ray r)), none, none, none], rfl, row_low w (h r hr) _ ⟨_, _, _, _, rfl⟩⟩) (by omega)
/-! ### neighbours -/
theorem nth_get {l : List (List Int)} {i : Nat} (h : 0 < l.length) : l[i % l.length]? = some (nth l i) := by
  have : i % l.length < l.length := Nat.mod_lt _ h
  unfold nth
  rw [List.getD_eq_getElem?_getD, List.getElem?_eq_getElem this]; rfl
theorem nth_lt {l : List (List Int)} {i : Nat} (h : i < l.length) : l[i]? = some (nth l i) := by
  have := nth_get (l := l) (i := i) (by omega)
  rwa [Nat.mod_eq_of_lt h] at this
theorem nth_mem {l : List (List Int)} {i : Nat} (h : 0 < l.length) : nth l i ∈ l := List.mem_of_getElem? (nth_get h)
theorem neigh_el {R : List D} {n i : Nat} {x y : D} (w : Pn) (hl : R.length = n) (hn : 0 < n) (hn2 : n ≤ 1000) (hy : R[(i + 1) % n]? = some y) : xtup (acons (xvar 2) (acons (xidx (xvar 0) (xbin .mod (xbin .add (xvar 1) (xcst (.int 1))) (xbui .len (acons (xvar 0) anil)))) (anil))) [some (.val (.tup R)), some (.val (.int (i : Int))), some (.val x)] w = some (.ok (.tup [x, y]) w) := by
  subst hl
  have h1 : ((i : Int) + 1) % (R.length : Int) = (((i + 1) % R.length : Nat) : Int) := by simp
  have hp : (0 : Int) < (R.length : Int) := by omega
  have e := at_tup hy (by omega)
  simp only [fnF, List.length_cons, List.length_nil, Nat.reduceAdd, Nat.reduceSub, if_true, start_eq, List.map_cons, List.map_nil, List.cons_append, List.nil_append, List.append_nil, List.replicate, scons, snil_eq, spass_eq, sasg, sret, sexpr, site, srais, saug, spar2, spar3, xbui, xbin, xcmp, xneg, xidx, xtup, xlst, xcall, xisi, xnot, xand, xor, xife, xtru, xcst, tand, tor, tnot, tyes, acons, anil, xvar, slot_z, slot_s, mslot_z, mslot_s, opt_some, bnd_ok, bu_gcd, Int.natAbs_natCast, setT, List.set_cons_succ, List.set_cons_zero, Option.map_some, small0, small1, small2, small3, idx_tup, idx_lst, at2_0, at2_1, at1_0, bo_add, bo_sub, co_lt, co_le, co_gt, co_ge, co_isN, ne_int, eqc_int, tru_bl, tru_int, tru_non, tru_lst, bu_int, bu_abs, bu_lenT, bu_lenL, bu_tupT, bu_tupL, isi_lt, isi_ll, isi_ii, isi_ib, isi_bi, isi_bb, decide_true, decide_false, Bool.not_true, Bool.not_false, Bool.false_eq_true, if_false, D.isNon, negF, bo_mod hp, h1, e]
theorem neighbours_eq {rays : List (List Int)} (w : Pn) (h0 : 0 < rays.length) (hl : rays.length ≤ 1000) : neighboursF [.tup (rays.map D.ray)] w = some (.ok (.lst (rays.zipIdx.map fun x => .tup [D.ray x.1, D.ray (nth rays (x.2 + 1))])) w) := by
  refine fn_rt rfl ?_
  unfold neighboursB
  refine sc_rt (ret_ok ?_)
  refine comp_of rays.zipIdx (fun x => .tup [.int x.2, D.ray x.1]) _ ?_ (fun x hx => ?_) (by rw [List.length_zipIdx]; omega)
  · have : srcEnum (xvar 0) [some (.val (.tup (rays.map D.ray))), none, none] w = some (.ok (enumL (rays.map D.ray)) w) := rfl
    rw [← enum_map]; exact this
  · obtain ⟨r, i⟩ := x
    exact ⟨[some (.val (.tup (rays.map D.ray))), some (.val (.int (i : Int))), some (.val (D.ray r))], rfl, neigh_el w (List.length_map _) h0 hl (by rw [List.getElem?_map, nth_get h0]; rfl)⟩
theorem neighbours_len {rays : List (List Int)} : ((rays.zipIdx.map fun x => D.tup [D.ray x.1, D.ray (nth rays (x.2 + 1))]).length) = rays.length := by
  rw [List.length_map, List.length_zipIdx]
def aTurn : XF := xcomp [4, 5] (.tp [4, 5]) (srcSeq (xcall neighboursF (acons (xvar 3) (anil)))) (tyes) (xcmp .gt (xcall turn_ofF (acons (xvar 4) (acons (xvar 5) (anil)))) (xcst (.int 0)))
theorem turn_el {a b x y z u : Option Sl} {r s : List Int} (w : Pn) (hr : rayB r = true) (hs : rayB s = true) (h : 0 < turnI r s) : xcmp .gt (xcall turn_ofF (acons (xvar 4) (acons (xvar 5) (anil)))) (xcst (.int 0)) [x, y, z, u, some (.val (D.ray r)), some (.val (D.ray s))] w = some (.ok (.bl true) w) := by
  have e := turn_r w hr hs
  simp only [fnF, List.length_cons, List.length_nil, Nat.reduceAdd, Nat.reduceSub, if_true, start_eq, List.map_cons, List.map_nil, List.cons_append, List.nil_append, List.append_nil, List.replicate, scons, snil_eq, spass_eq, sasg, sret, sexpr, site, srais, saug, spar2, spar3, xbui, xbin, xcmp, xneg, xidx, xtup, xlst, xcall, xisi, xnot, xand, xor, xife, xtru, xcst, tand, tor, tnot, tyes, acons, anil, xvar, slot_z, slot_s, mslot_z, mslot_s, opt_some, bnd_ok, bu_gcd, Int.natAbs_natCast, setT, List.set_cons_succ, List.set_cons_zero, Option.map_some, small0, small1, small2, small3, idx_tup, idx_lst, at2_0, at2_1, at1_0, bo_add, bo_sub, co_lt, co_le, co_gt, co_ge, co_isN, ne_int, eqc_int, tru_bl, tru_int, tru_non, tru_lst, bu_int, bu_abs, bu_lenT, bu_lenL, bu_tupT, bu_tupL, isi_lt, isi_ll, isi_ii, isi_ib, isi_bi, isi_bb, decide_true, decide_false, Bool.not_true, Bool.not_false, Bool.false_eq_true, if_false, D.isNon, negF, e, h]
theorem turns_all {rays : List (List Int)} {x y z : Option Sl} (w : Pn) (F : Fam rays) : aTurn [x, y, z, some (.val (.tup (rays.map D.ray))), none, none] w = some (.ok (.lst (rays.zipIdx.map fun _ => .bl true)) w) := by
  have h0 : 0 < rays.length := by have := F.n3; omega
  have hl : rays.length ≤ 1000 := by have := F.n7; omega
  refine comp_of rays.zipIdx (fun x => .tup [D.ray x.1, D.ray (nth rays (x.2 + 1))]) _ ?_ (fun p hp => ?_) (by rw [List.length_zipIdx]; omega)
  · have e1 : xcall neighboursF (acons (xvar 3) anil) [x, y, z, some (.val (.tup (rays.map D.ray))), none, none] w = _ := call_ok (ds := [.tup (rays.map D.ray)]) rfl (neighbours_eq w h0 hl)
    unfold srcSeq
    rw [e1]; rfl
  · obtain ⟨r, i⟩ := p
    have hx := List.mem_zipIdx hp
    have hi : i < rays.length := by omega
    have er : r = nth rays i := by
      have e1 := nth_lt hi
      rw [List.getElem?_eq_getElem hi] at e1
      have := hx.2.2
      simp only [Nat.sub_zero] at this
      rw [this]; exact Option.some.inj e1
    subst er
    exact ⟨[x, y, z, some (.val (.tup (rays.map D.ray))), some (.val (D.ray (nth rays i))), some (.val (D.ray (nth rays (i + 1))))], rfl, turn_el (a := none) (b := none) w (F.ray _ (nth_mem h0)) (F.ray _ (nth_mem h0)) (F.tn i hi)⟩
/-! ### are_rays -/
theorem rowsOf_rays : ∀ l : List (List Int), Rh.rowsOf (l.map D.ray) = some l
  | [] => rfl
  | r :: l => by
    have e : Rh.intsOf (r.map D.int) = some r := by
      induction r with
      | nil => rfl
      | cons a r ih => rw [List.map_cons]; unfold Rh.intsOf; rw [ih]; rfl
    rw [List.map_cons]
    show (match Rh.intsOf (r.map D.int) with | some x => (Rh.rowsOf (l.map D.ray)).map (x :: ·) | none => none) = _
    rw [e, rowsOf_rays l]; rfl
theorem lenSet_rays {l : List (List Int)} (h : l.Nodup) (hl : l.length < 64) : lenSetF (.tup (l.map D.ray)) = some (.int (l.length : Nat)) := by
  show (match Rh.rowsOf (l.map D.ray) with | some rows => if rows.length < 64 then some (D.int (distN rows : Nat)) else none | none => none) = _
  rw [rowsOf_rays]
  simp only []
  rw [if_pos hl, distN_nodup _ h]
theorem are_raysF2 : are_raysF = fnF 2 6 (scons (sexpr (xcall need_numberF (acons (xvar 1) (acons (xcst (.str "stores")) (acons (xcst (.int 1)) (acons (xcst (.int 2)) (anil))))))) (scons (site (tor (tnot (xtru (xcall is_listedF (acons (xvar 0) (anil))))) (tnot (xtru (xbui .all (acons aRow anil))))) (scons (sret (xcst (.bl false))) (snil)) (snil)) (scons (sasg (.nm 3) (xcall (fixedF 8) (acons (xvar 0) (anil)))) (scons (site (xtru (xcmp .eq (xvar 1) (xcst (.int 1)))) (scons (sret (xcmp .eq (xvar 3) (xtup (acons (xtup (acons (xneg (xcst (.int 1))) (anil))) (acons (xtup (acons (xcst (.int 1)) (anil))) (anil)))))) (snil)) (snil)) (scons (site (tor (xtru (xcmp .lt (xbui .len (acons (xvar 3) anil)) (xcst (.int 3)))) (tor (xtru (xcmp .lt (xlenSet (xvar 3)) (xbui .len (acons (xvar 3) anil)))) (xtru (xcmp .ne (xvar 3) (xcall by_angleF (acons (xvar 3) (anil))))))) (scons (sret (xcst (.bl false))) (snil)) (snil)) (scons (sret (xbui .all (acons aTurn anil))) (snil))))))) := rfl
/-- up to the test of the order -/
theorem are_rays_gen {rays : List (List Int)} {o : D} (w : Pn) (h : ∀ r ∈ rays, rayB r = true) (n3 : 3 ≤ rays.length) (n7 : rays.length ≤ 7) (nd : rays.Nodup)
    (fin : (byP rays = rays → xbui .all (acons aTurn anil) [some (.val (.tup (rays.map D.ray))), some (.val (.int 2)), none, some (.val (.tup (rays.map D.ray))), none, none] w = some (.ok o w)) ∧ (byP rays ≠ rays → o = .bl false)) :
    are_raysF [.tup (rays.map D.ray), .int 2] w = some (.ok o w) := by
  rw [are_raysF2]
  refine fn_rt rfl ?_
  have st : startE 6 [.tup (rays.map D.ray), .int 2] = [some (.val (.tup (rays.map D.ray))), some (.val (.int 2)), none, none, none, none] := rfl
  rw [st]
  have e1 : need_numberF [.int 2, .str "stores", .int 1, .int 2] w = some (.ok .non w) := need_number_t _ w (by decide) (by decide)
  rw [sc_nx (exp_ok (call_ok (ds := [.int 2, .str "stores", .int 1, .int 2]) rfl e1))]
  have e2 := bui_ok (args_1 (rows_all w h (by omega))) (bools_all (fun _ : List Int => D.bl true) rays fun _ _ => rfl)
  have e3 := is_listed_t (rays.map D.ray) w
  have c1 : tor (tnot (xtru (xcall is_listedF (acons (xvar 0) (anil))))) (tnot (xtru (xbui .all (acons aRow anil)))) [some (.val (.tup (rays.map D.ray))), some (.val (.int 2)), none, none, none, none] w = some (.ok false w) := by
    unfold tor
    rw [not_ok (tru_ok (call_ok (ds := [.tup (rays.map D.ray)]) rfl e3)), bnd_ok]
    show tnot (xtru (xbui .all (acons aRow anil))) _ w = _
    rw [not_ok (tru_ok e2)]; rfl
  refine (sc_nx (if_no (a := scons _ snil) (b := snil) c1)).trans ?_
  have e4 : fixedF 8 [.tup (rays.map D.ray)] w = some (.ok (.tup (rays.map D.ray)) w) := fixed_of (fix_tup (fun r hr => fix_ray (by
    obtain ⟨a, b, rfl, _⟩ := rayB_ok (h r hr)
    show 2 ≤ 1000000
    decide)) (by omega))
  refine (sc_nx (asg_ok (call_ok (ds := [.tup (rays.map D.ray)]) rfl e4) rfl)).trans ?_
  refine (sc_nx (if_no (a := scons _ snil) (b := snil) (tru_ok (b := false) rfl))).trans ?_
  have l1 : ¬ (((rays.map D.ray).length : Nat) : Int) < 3 := by simp; omega
  have ls := lenSet_rays nd (by omega)
  have l2 : ¬ ((rays.length : Nat) : Int) < (((rays.map D.ray).length : Nat) : Int) := by simp
  have e5 := by_angle_eq w h (by omega)
  have e6 := ne_rays rays (byP rays)
  have c2 : tor (xtru (xcmp .lt (xbui .len (acons (xvar 3) anil)) (xcst (.int 3)))) (tor (xtru (xcmp .lt (xlenSet (xvar 3)) (xbui .len (acons (xvar 3) anil)))) (xtru (xcmp .ne (xvar 3) (xcall by_angleF (acons (xvar 3) (anil)))))) [some (.val (.tup (rays.map D.ray))), some (.val (.int 2)), none, some (.val (.tup (rays.map D.ray))), none, none] w = some (.ok (!decide (rays = byP rays)) w) := by
    simp only [fnF, List.length_cons, List.length_nil, Nat.reduceAdd, Nat.reduceSub, if_true, start_eq, List.map_cons, List.map_nil, List.cons_append, List.nil_append, List.append_nil, List.replicate, scons, snil_eq, spass_eq, sasg, sret, sexpr, site, srais, saug, spar2, spar3, xbui, xbin, xcmp, xneg, xidx, xtup, xlst, xcall, xisi, xnot, xand, xor, xife, xtru, xcst, tand, tor, tnot, tyes, acons, anil, xvar, slot_z, slot_s, mslot_z, mslot_s, opt_some, bnd_ok, bu_gcd, Int.natAbs_natCast, setT, List.set_cons_succ, List.set_cons_zero, Option.map_some, small0, small1, small2, small3, idx_tup, idx_lst, at2_0, at2_1, at1_0, bo_add, bo_sub, co_lt, co_le, co_gt, co_ge, co_isN, ne_int, eqc_int, tru_bl, tru_int, tru_non, tru_lst, bu_int, bu_abs, bu_lenT, bu_lenL, bu_tupT, bu_tupL, isi_lt, isi_ll, isi_ii, isi_ib, isi_bi, isi_bb, decide_true, decide_false, Bool.not_true, Bool.not_false, Bool.false_eq_true, if_false, D.isNon, negF, l1, xlenSet, ls, l2, e5, e6]
  by_cases c : byP rays = rays
  · have c3 : (!decide (rays = byP rays)) = false := by rw [c]; simp
    rw [c3] at c2
    refine (sc_nx (if_no (a := scons _ snil) (b := snil) c2)).trans ?_
    exact sc_rt (ret_ok (fin.1 c))
  · have c3 : (!decide (rays = byP rays)) = true := by simp; exact fun z => c z.symm
    rw [c3] at c2
    rw [fin.2 c]
    exact sc_rt ((if_yes c2).trans (sc_rt rfl))
theorem are_rays_fam {rays : List (List Int)} (w : Pn) (F : Fam rays) : are_raysF [.tup (rays.map D.ray), .int 2] w = some (.ok (.bl true) w) :=
  are_rays_gen w F.ray F.n3 F.n7 F.nd ⟨fun _ => bui_ok (args_1 (turns_all w F)) (bools_all (fun _ => D.bl true) _ fun _ _ => rfl), fun z => absurd F.by_ z⟩
theorem are_rays_rev {rays : List (List Int)} (w : Pn) (F : Fam rays) : are_raysF [.tup (rays.reverse.map D.ray), .int 2] w = some (.ok (.bl false) w) :=
  are_rays_gen w (fun r hr => F.ray r (List.mem_reverse.mp hr)) (by rw [List.length_reverse]; exact F.n3) (by rw [List.length_reverse]; exact F.n7) ((List.reverse_perm rays).nodup_iff.mpr F.nd) ⟨fun z => absurd z F.rev, fun _ => rfl⟩
def one2 : List (List Int) := [[-1], [1]]
theorem are_rays_one (w : Pn) : are_raysF [.tup (one2.map D.ray), .int 1] w = some (.ok (.bl true) w) := rfl
theorem are_rays_one_rev (w : Pn) : are_raysF [.tup (one2.reverse.map D.ray), .int 1] w = some (.ok (.bl false) w) := rfl
end Rh
set_option Elab.async false
set_option linter.all false
set_option maxRecDepth 100000
set_option maxHeartbeats 4000000
/-! Rh: are_round in general; are_all_round; is_formed. -/
namespace Rh
open PySem L2
theorem bools_are {α : Type} (f : α → Bool) : ∀ xs : List α, buF .all [.lst (xs.map fun x => D.bl (f x))] = some (.bl (xs.all f)) := by
  intro xs
  have key : boolsOf (xs.map fun x => D.bl (f x)) = some (xs.map f) := by
    induction xs with
    | nil => rfl
    | cons x r ih =>
      rw [List.map_cons]
      unfold boolsOf
      rw [ih]
      rfl
  show (boolsOf (xs.map fun x => D.bl (f x))).map (fun bs => D.bl (bs.all id)) = _
  rw [key]
  simp
def tth (ts : List Int) (i : Nat) : Int := ts.getD (i % ts.length) 0
theorem tth_get {l : List Int} {i : Nat} (h : 0 < l.length) : l[i % l.length]? = some (tth l i) := by
  have : i % l.length < l.length := Nat.mod_lt _ h
  unfold tth
  rw [List.getD_eq_getElem?_getD, List.getElem?_eq_getElem this]; rfl
theorem tth_mem {l : List Int} {i : Nat} (h : 0 < l.length) : tth l i ∈ l := List.mem_of_getElem? (tth_get h)
def bulI (rays : List (List Int)) (ts : List Int) (i : Nat) : Int := turnI (nth rays (i + 1)) (nth rays (i + 2)) * tth ts i + turnI (nth rays i) (nth rays (i + 1)) * tth ts (i + 2) - turnI (nth rays i) (nth rays (i + 2)) * tth ts (i + 1)
theorem are_round_two {z : Nat} {rays : List (List Int)} {ts : List Int} (w : Pn) (h : ∀ r ∈ rays, rayB r = true) (h0 : 0 < rays.length) (h2 : rays.length ≤ 1000) (h3 : ts.length = rays.length) (st : ∀ t ∈ ts, Sz z t) (hz : z ≤ 100000) :
    are_roundF [.tup (rays.map D.ray), .lst (ts.map .int)] w = some (.ok (.bl ((List.range rays.length).all fun i => decide (0 ≤ bulI rays ts i))) w) := by
  have t := threes_eq w (rays := rays) (by omega) (by omega)
  have e : xcomp [2] (.nm 2) (srcSeq (xcall threesF (acons (xvar 0) anil))) tyes (xcmp .ge (xcall bulgeF (acons (xvar 0) (acons (xvar 2) (acons (xvar 1) anil)))) (xcst (.int 0))) [some (.val (.tup (rays.map D.ray))), some (.val (.lst (ts.map .int))), none] w = some (.ok (.lst ((List.range rays.length).map fun i => D.bl (decide (0 ≤ bulI rays ts i)))) w) := by
    refine comp_of (List.range rays.length) (three rays.length) _ ?_ (fun i hi => ?_) (by rw [List.length_range]; omega)
    · have e1 : xcall threesF (acons (xvar 0) anil) [some (.val (.tup (rays.map D.ray))), some (.val (.lst (ts.map .int))), none] w = _ := call_ok (ds := [.tup (rays.map D.ray)]) rfl t
      unfold srcSeq
      rw [e1]; rfl
    · have hi := List.mem_range.mp hi
      have ht : 0 < ts.length := by omega
      obtain ⟨a, b, e1, _⟩ := rayB_ok (h _ (nth_mem (i := i) h0))
      obtain ⟨c, d, e2, _⟩ := rayB_ok (h _ (nth_mem (i := i + 1) h0))
      obtain ⟨e, f, e3, _⟩ := rayB_ok (h _ (nth_mem (i := i + 2) h0))
      have u1 := tth_get (i := i) ht
      have u2 := tth_get (i := i + 1) ht
      have u3 := tth_get (i := i + 2) ht
      rw [h3] at u1 u2 u3
      rw [Nat.mod_eq_of_lt hi] at u1
      have bl := bulge_eq w (m := rays.length) rfl h2 h3 (by rw [nth_lt hi, e1]) (by rw [nth_get h0, e2]) (by rw [nth_get h0, e3]) u1 u2 u3 (fun r hr => rayB_rayOk (h r hr)) st hz
      have eb : bulI rays ts i = (c * f - d * e) * tth ts i + (a * d - b * c) * tth ts (i + 2) - (a * f - b * e) * tth ts (i + 1) := by
        unfold bulI
        rw [e1, e2, e3]; rfl
      rw [← eb] at bl
      refine ⟨[some (.val (.tup (rays.map D.ray))), some (.val (.lst (ts.map .int))), some (.val (three rays.length i))], rfl, ?_⟩
      simp only [fnF, List.length_cons, List.length_nil, Nat.reduceAdd, Nat.reduceSub, if_true, start_eq, List.map_cons, List.map_nil, List.cons_append, List.nil_append, List.append_nil, List.replicate, scons, snil_eq, spass_eq, sasg, sret, sexpr, site, srais, saug, spar2, spar3, xbui, xbin, xcmp, xneg, xidx, xtup, xlst, xcall, xisi, xnot, xand, xor, xife, xtru, xcst, tand, tor, tnot, tyes, acons, anil, xvar, slot_z, slot_s, mslot_z, mslot_s, opt_some, bnd_ok, bu_gcd, Int.natAbs_natCast, setT, List.set_cons_succ, List.set_cons_zero, Option.map_some, small0, small1, small2, small3, idx_tup, idx_lst, at2_0, at2_1, at1_0, bo_add, bo_sub, co_lt, co_le, co_gt, co_ge, co_isN, ne_int, eqc_int, tru_bl, tru_int, tru_non, tru_lst, bu_int, bu_abs, bu_lenT, bu_lenL, bu_tupT, bu_tupL, isi_lt, isi_ll, isi_ii, isi_ib, isi_bi, isi_bb, decide_true, decide_false, Bool.not_true, Bool.not_false, Bool.false_eq_true, if_false, D.isNon, negF, bl]
  obtain ⟨a, b, e1, _⟩ := rayB_ok (h _ (nth_mem (i := 0) h0))
  have g0 : idxF (.tup (rays.map D.ray)) (.int 0) = some (D.ray [a, b]) := at_nat (i := 0) (by rw [List.getElem?_map, nth_lt h0, e1]; rfl) (by rw [List.length_map]; omega)
  exact are_round_f g0 rfl e (bools_are _ _)
/-- one store -/
theorem are_round_one {a b : Int} (w : Pn) : are_roundF [.tup (one2.map D.ray), .lst [.int a, .int b]] w = some (.ok (.bl (decide (0 ≤ a + b))) w) := by
  refine fn_rt rfl ?_
  unfold are_roundB
  refine sc_rt ((if_yes (a := scons _ snil) (b := snil) (w1 := w) (tru_ok (b := true) rfl)).trans (sc_rt (ret_ok ?_)))
  have s : buF .sum [.lst [.int a, .int b]] = some (.int (a + b)) := by
    show some (D.int ([a, b].sum)) = _
    simp
  have st : startE 3 [.tup (one2.map D.ray), .lst [.int a, .int b]] = [some (.val (.tup (one2.map D.ray))), some (.val (.lst [.int a, .int b])), none] := rfl
  rw [st]
  simp only [fnF, List.length_cons, List.length_nil, Nat.reduceAdd, Nat.reduceSub, if_true, start_eq, List.map_cons, List.map_nil, List.cons_append, List.nil_append, List.append_nil, List.replicate, scons, snil_eq, spass_eq, sasg, sret, sexpr, site, srais, saug, spar2, spar3, xbui, xbin, xcmp, xneg, xidx, xtup, xlst, xcall, xisi, xnot, xand, xor, xife, xtru, xcst, tand, tor, tnot, tyes, acons, anil, xvar, slot_z, slot_s, mslot_z, mslot_s, opt_some, bnd_ok, bu_gcd, Int.natAbs_natCast, setT, List.set_cons_succ, List.set_cons_zero, Option.map_some, small0, small1, small2, small3, idx_tup, idx_lst, at2_0, at2_1, at1_0, bo_add, bo_sub, co_lt, co_le, co_gt, co_ge, co_isN, ne_int, eqc_int, tru_bl, tru_int, tru_non, tru_lst, bu_int, bu_abs, bu_lenT, bu_lenL, bu_tupT, bu_tupL, isi_lt, isi_ll, isi_ii, isi_ib, isi_bi, isi_bb, decide_true, decide_false, Bool.not_true, Bool.not_false, Bool.false_eq_true, if_false, D.isNon, negF, s]
/-! ### flat lists -/
theorem flat_rows : ∀ (rows : List (List Rat)) (acc : List D), acc.length + rows.flatten.length ≤ 1000000 → flatL (rows.map fun row => .tup (row.map D.rat)) acc = some (acc ++ rows.flatten.map D.rat)
  | [], acc, _ => by simp [flatL]
  | row :: rows, acc, hl => by
    rw [List.flatten_cons, List.length_append] at hl
    rw [List.map_cons, flatL]
    have : seqOf (.tup (row.map D.rat)) = some (row.map D.rat) := rfl
    rw [this]
    simp only []
    rw [if_pos (small_le (by rw [List.length_map]; omega)), flat_rows rows _ (by rw [List.length_append, List.length_map]; omega)]
    simp
def rowsD (rows : List (List Rat)) : D := .tup (rows.map fun row => .tup (row.map D.rat))
def topsOf (B : Nat) (row : List Rat) : List Int := row.map fun q => q.num * ((B : Int) / (q.den : Int))
def Brows (rows : List (List Rat)) : Nat := botOf rows.flatten
theorem sz_top {n m : Nat} {q : Rat} {B : Nat} (hq : Bd n q) (hB : Sz m (B : Int)) : Sz (n + m) (q.num * ((B : Int) / (q.den : Int))) := by
  refine hq.num.mul ?_
  rw [← Int.natCast_ediv]
  unfold Sz at *
  simp only [Int.natAbs_natCast] at *
  exact Nat.lt_of_le_of_lt (Nat.div_le_self _ _) hB
theorem are_all_round_eq {n : Nat} {R : D} {rows : List (List Rat)} (f : List Rat → Bool) (w : Pn) (hb : ∀ row ∈ rows, ∀ q ∈ row, Bd n q) (hn : n * (rows.flatten.length + 1) + 1 ≤ 8000) (hl : rows.flatten.length ≤ 7000) (hl2 : rows.length ≤ 7000) (hn2 : n ≤ 8000) (hl3 : ∀ row ∈ rows, row.length ≤ 7000)
    (hr : Sz (n * rows.flatten.length + 1) (Brows rows : Int) → ∀ row ∈ rows, are_roundF [R, .lst ((topsOf (Brows rows) row).map .int)] w = some (.ok (.bl (f row)) w)) :
    are_all_roundF [R, rowsD rows] w = some (.ok (.bl (rows.all f)) w) := by
  obtain ⟨e1, sB⟩ := shared_bottom_eq (n := n) (qs := rows.flatten) w (fun q hq => by
    obtain ⟨row, h1, h2⟩ := List.mem_flatten.mp hq
    exact hb row h1 q h2) hn
  have sB' : Sz 8000 (Brows rows : Int) := by
    unfold Brows
    refine sB.mono ?_
    have : n * rows.flatten.length ≤ n * (rows.flatten.length + 1) := Nat.mul_le_mul_left _ (Nat.le_succ _)
    omega
  have ef := flat_rows rows [] (by simp; simp at hl; omega)
  refine fn_rt rfl ?_
  have st : startE 5 [R, rowsD rows] = [some (.val R), some (.val (rowsD rows)), none, none, none] := rfl
  unfold are_all_roundB
  rw [st]
  have c1 : xflat 3 4 (srcSeq (xvar 1)) [some (.val R), some (.val (rowsD rows)), none, none, none] w = some (.ok (.lst (rows.flatten.map D.rat)) w) := by
    unfold xflat
    rw [if_pos (by simp)]
    have : srcSeq (xvar 1) [some (.val R), some (.val (rowsD rows)), none, none, none] w = some (.ok (rows.map fun row => .tup (row.map D.rat)) w) := rfl
    rw [this, bnd_ok, ef]; rfl
  have c2 : xcall shared_bottomF (acons (xflat 3 4 (srcSeq (xvar 1))) anil) [some (.val R), some (.val (rowsD rows)), none, none, none] w = some (.ok (.int (Brows rows : Int)) w) := call_ok (args_1 c1) e1
  rw [sc_nx (asg_ok c2 rfl)]
  refine sc_rt (ret_ok (bui_ok (args_1 ?_) (bools_are f rows)))
  refine comp_of rows (fun row => .tup (row.map D.rat)) _ rfl (fun row hrow => ?_) (by omega)
  refine ⟨[some (.val R), some (.val (rowsD rows)), some (.val (.int (Brows rows : Int))), some (.val (.tup (row.map D.rat))), none], rfl, ?_⟩
  have c3 : xcomp [4] (.nm 4) (srcSeq (xvar 3)) tyes (xcall over_itF (acons (xvar 4) (acons (xvar 2) anil))) [some (.val R), some (.val (rowsD rows)), some (.val (.int (Brows rows : Int))), some (.val (.tup (row.map D.rat))), none] w = some (.ok (.lst (row.map fun q => .int (q.num * ((Brows rows : Int) / (q.den : Int))))) w) :=
    comp_of row D.rat _ rfl (fun q hq => ⟨[some (.val R), some (.val (rowsD rows)), some (.val (.int (Brows rows : Int))), some (.val (.tup (row.map D.rat))), some (.val (D.rat q))], rfl, call_ok (ds := [D.rat q, .int (Brows rows : Int)]) rfl (over_it_eq w (hb row hrow q hq) sB' hn2 (by omega))⟩) (by have := hl3 row hrow; omega)
  have et : (topsOf (Brows rows) row).map D.int = row.map fun q => .int (q.num * ((Brows rows : Int) / (q.den : Int))) := by
    unfold topsOf
    rw [List.map_map]; rfl
  rw [← et] at c3
  exact call_ok (args_c rfl (args_1 c3)) (hr sB row hrow)
/-! ### is_formed -/
theorem formed_not {v : D} (w : Pn) (h : isiF v (.cls [1] [0]) = some false) : is_formedF [v] w = some (.ok (.bl false) w) := by
  refine fn_rt rfl ?_
  have st : startE 3 [v] = [some (.val v), none, none] := rfl
  unfold is_formedB
  rw [st]
  have c1 : xisi (xvar 0) (.cls [1] [0]) [some (.val v), none, none] w = some (.ok (.bl false) w) := by
    simp only [fnF, List.length_cons, List.length_nil, Nat.reduceAdd, Nat.reduceSub, if_true, start_eq, List.map_cons, List.map_nil, List.cons_append, List.nil_append, List.append_nil, List.replicate, scons, snil_eq, spass_eq, sasg, sret, sexpr, site, srais, saug, spar2, spar3, xbui, xbin, xcmp, xneg, xidx, xtup, xlst, xcall, xisi, xnot, xand, xor, xife, xtru, xcst, tand, tor, tnot, tyes, acons, anil, xvar, slot_z, slot_s, mslot_z, mslot_s, opt_some, bnd_ok, bu_gcd, Int.natAbs_natCast, setT, List.set_cons_succ, List.set_cons_zero, Option.map_some, small0, small1, small2, small3, idx_tup, idx_lst, at2_0, at2_1, at1_0, bo_add, bo_sub, co_lt, co_le, co_gt, co_ge, co_isN, ne_int, eqc_int, tru_bl, tru_int, tru_non, tru_lst, bu_int, bu_abs, bu_lenT, bu_lenL, bu_tupT, bu_tupL, isi_lt, isi_ll, isi_ii, isi_ib, isi_bi, isi_bb, decide_true, decide_false, Bool.not_true, Bool.not_false, Bool.false_eq_true, if_false, D.isNon, negF, h]
  refine sc_rt ((if_yes (a := scons _ snil) (b := snil) (w1 := w) ?_).trans (sc_rt rfl))
  exact or_t (not_ok (tru_ok c1))
theorem formed_none (N : D) (w : Pn) : is_formedF [vLots (.tup []) N] w = some (.ok (.bl false) w) := rfl
def fB1 : SF := scons (site (tor (tnot (xtru (xcall is_listedF (acons (xfld (xvar 0) 1 3) (anil))))) (xtru (xcmp .eq (xbui .len (acons (xfld (xvar 0) 1 3) anil)) (xcst (.int 0))))) (scons (sret (xcst (.bl false))) (snil)) (snil)) (scons (site (tnot (xtru (xbui .all (acons (xcomp [2] (.nm 2) (srcSeq (xfld (xvar 0) 1 3)) (tyes) (xcall are_fractionsF (acons (xvar 2) (acons (xbui .len (acons (xfld (xvar 0) 1 2) anil)) (anil))))) anil)))) (scons (sret (xcst (.bl false))) (snil)) (snil)) (scons (sret (xcall are_all_roundF (acons (xfld (xvar 0) 1 2) (acons (xfld (xvar 0) 1 3) (anil))))) (snil)))
/-- rays are looked at -/
theorem formed_rays {R : List D} {r0 : List Int} {N o : D} {k : Nat} {b : Bool} (w : Pn) (h0 : R[0]? = some (D.ray r0)) (hl : R.length ≤ 1000000) (hk : r0.length = k) (h12 : k = 1 ∨ k = 2) (ar : are_raysF [.tup R, .int (k : Int)] w = some (.ok (.bl b) w))
    (fin : if b = true then fB1 [some (.val (vLots (.tup R) N)), some (.val (.int (k : Int))), none] w = some (.ok (.rt o) w) else o = .bl false) : is_formedF [vLots (.tup R) N] w = some (.ok o w) := by
  refine fn_rt rfl ?_
  have st : startE 3 [vLots (.tup R) N] = [some (.val (vLots (.tup R) N)), none, none] := rfl
  unfold is_formedB
  rw [st]
  have hlen : (((R.length : Nat) : Int) == 0) = false := by
    have : 0 < R.length := by
      cases R with
      | nil => simp at h0
      | cons a r => simp
    rw [beq_eq_false_iff_ne]; omega
  have g0 : idxF (.tup R) (.int 0) = some (D.ray r0) := at_nat (i := 0) h0 hl
  have i1 : isiF (vLots (.tup R) N) (.cls [1] [0]) = some true := rfl
  have l1 := is_listed_t R w
  have l2 := is_listed_t (r0.map D.int) w
  have c1 : tor (tnot (xtru (xisi (xvar 0) (.cls [1] [0])))) (tor (tnot (xtru (xcall is_listedF (acons (xfld (xvar 0) 1 2) (anil))))) (tor (xtru (xcmp .eq (xbui .len (acons (xfld (xvar 0) 1 2) anil)) (xcst (.int 0)))) (tnot (xtru (xcall is_listedF (acons (xidx (xfld (xvar 0) 1 2) (xcst (.int 0))) (anil))))))) [some (.val (vLots (.tup R) N)), none, none] w = some (.ok false w) := by
    have f2 : xfld (xvar 0) 1 2 [some (.val (vLots (.tup R) N)), none, none] w = some (.ok (.tup R) w) := rfl
    have f1 : xisi (xvar 0) (.cls [1] [0]) [some (.val (vLots (.tup R) N)), none, none] w = some (.ok (.bl true) w) := rfl
    have el : xcmp .eq (xbui .len (acons (xfld (xvar 0) 1 2) anil)) (xcst (.int 0)) [some (.val (vLots (.tup R) N)), none, none] w = some (.ok (.bl false) w) := cmp_ok (bui_ok (args_1 f2) (bu_lenT R)) rfl ((eqc_int _ _).trans (by rw [hlen]))
    have x0 : xidx (xfld (xvar 0) 1 2) (xcst (.int 0)) [some (.val (vLots (.tup R) N)), none, none] w = some (.ok (D.ray r0) w) := idx_ok f2 rfl g0
    exact (or_f (not_ok (tru_ok f1))).trans ((or_f (not_ok (tru_ok (call_ok (args_1 f2) l1)))).trans ((or_f (tru_ok el)).trans (not_ok (tru_ok (call_ok (args_1 x0) l2)))))
  refine (sc_nx (if_no (a := scons _ snil) (b := snil) c1)).trans ?_
  have x0 : xidx (xfld (xvar 0) 1 2) (xcst (.int 0)) [some (.val (vLots (.tup R) N)), none, none] w = some (.ok (D.ray r0) w) := by
    have f2 : xfld (xvar 0) 1 2 [some (.val (vLots (.tup R) N)), none, none] w = some (.ok (.tup R) w) := rfl
    exact idx_ok f2 rfl g0
  have bl0 : buF .len [D.ray r0] = some (.int (k : Int)) := by
    show some (D.int ((r0.map D.int).length : Nat)) = _
    rw [List.length_map, hk]
  refine (sc_nx (asg_ok (bui_ok (args_1 x0) bl0) rfl)).trans ?_
  have kk : xtru (xchn .le .le (xcst (.int 1)) (xvar 1) (xcst (.int 2))) [some (.val (vLots (.tup R) N)), some (.val (.int (k : Int))), none] w = some (.ok true w) := by
    rcases h12 with rfl | rfl
    · rfl
    · rfl
  have c2 : tor (tnot (xtru (xchn .le .le (xcst (.int 1)) (xvar 1) (xcst (.int 2))))) (tnot (xtru (xcall are_raysF (acons (xfld (xvar 0) 1 2) (acons (xvar 1) (anil)))))) [some (.val (vLots (.tup R) N)), some (.val (.int (k : Int))), none] w = some (.ok (!b) w) := by
    exact (or_f (not_ok kk)).trans (not_ok (tru_ok (call_ok (ds := [.tup R, .int (k : Int)]) rfl ar)))
  cases b with
  | true =>
    refine (sc_nx (if_no (a := scons _ snil) (b := snil) c2)).trans ?_
    exact fin
  | false =>
    rw [show o = .bl false from fin]
    exact sc_rt ((if_yes c2).trans (sc_rt rfl))
theorem fB1_non {R : D} {k : Option Sl} (w : Pn) : fB1 [some (.val (vLots R .non)), k, none] w = some (.ok (.rt (.bl false)) w) := rfl
theorem fB1_nil {R : D} {k : Option Sl} (w : Pn) : fB1 [some (.val (vLots R (.tup []))), k, none] w = some (.ok (.rt (.bl false)) w) := rfl
theorem fB1_gen {α : Type} {R : List D} {xs : List α} {h : α → D} {f : α → Bool} {o : D} {k : Option Sl} (w : Pn) (hx : xs ≠ []) (hl : xs.length ≤ 1000) (af : ∀ x ∈ xs, are_fractionsF [h x, .int (R.length : Int)] w = some (.ok (.bl (f x)) w))
    (fin : if xs.all f = true then are_all_roundF [.tup R, .tup (xs.map h)] w = some (.ok o w) else o = .bl false) : fB1 [some (.val (vLots (.tup R) (.tup (xs.map h)))), k, none] w = some (.ok (.rt o) w) := by
  have hlen : ((((xs.map h).length : Nat) : Int) == 0) = false := by
    have : 0 < xs.length := List.length_pos_iff.mpr hx
    rw [beq_eq_false_iff_ne, List.length_map]; omega
  unfold fB1
  have f3 : ∀ u, xfld (xvar 0) 1 3 [some (.val (vLots (.tup R) (.tup (xs.map h)))), k, u] w = some (.ok (.tup (xs.map h)) w) := fun _ => rfl
  have f2 : ∀ u, xfld (xvar 0) 1 2 [some (.val (vLots (.tup R) (.tup (xs.map h)))), k, u] w = some (.ok (.tup R) w) := fun _ => rfl
  have c1 : tor (tnot (xtru (xcall is_listedF (acons (xfld (xvar 0) 1 3) (anil))))) (xtru (xcmp .eq (xbui .len (acons (xfld (xvar 0) 1 3) anil)) (xcst (.int 0)))) [some (.val (vLots (.tup R) (.tup (xs.map h)))), k, none] w = some (.ok false w) := by
    refine (or_f (not_ok (tru_ok (call_ok (args_1 (f3 none)) (is_listed_t _ w))))).trans ?_
    exact tru_ok (cmp_ok (bui_ok (args_1 (f3 none)) (bu_lenT _)) rfl ((eqc_int _ _).trans (by rw [hlen])))
  refine (sc_nx (if_no (a := scons _ snil) (b := snil) c1)).trans ?_
  have c2 : xcomp [2] (.nm 2) (srcSeq (xfld (xvar 0) 1 3)) (tyes) (xcall are_fractionsF (acons (xvar 2) (acons (xbui .len (acons (xfld (xvar 0) 1 2) anil)) (anil)))) [some (.val (vLots (.tup R) (.tup (xs.map h)))), k, none] w = some (.ok (.lst (xs.map fun x => .bl (f x))) w) := by
    refine comp_of xs h _ ?_ (fun x hx => ⟨[some (.val (vLots (.tup R) (.tup (xs.map h)))), k, some (.val (h x))], rfl, ?_⟩) (by omega)
    · unfold srcSeq
      rw [f3]; rfl
    · exact call_ok (args_c rfl (args_1 (bui_ok (args_1 (f2 _)) (bu_lenT R)))) (af x hx)
  have c3 := bui_ok (args_1 c2) (bools_are f xs)
  cases e : xs.all f with
  | true =>
    rw [e] at c3 fin
    refine (sc_nx (if_no (a := scons _ snil) (b := snil) (not_ok (tru_ok c3)))).trans ?_
    exact sc_rt (ret_ok (call_ok (args_c (f2 none) (args_1 (f3 none))) fin))
  | false =>
    rw [e] at c3 fin
    rw [show o = .bl false from fin]
    exact sc_rt ((if_yes (not_ok (tru_ok c3))).trans (sc_rt rfl))
end Rh
set_option Elab.async false
set_option linter.all false
set_option maxRecDepth 100000
set_option maxHeartbeats 4000000
/-! Rh: the text of repr, by data. -/
namespace Rh
open PySem L2
theorem sOk_ap {x y : Str} (h : PyData.strOk x = true) (g : PyData.strOk y = true) : PyData.strOk (x ++ y) = true := by
  unfold PyData.strOk at *
  show (x.cps ++ y.cps).all _ = true
  rw [Array.all_append, h, g]; rfl
theorem sOk_of (s : String) : PyData.strOk (Str.ofString s) = true := by
  unfold PyData.strOk
  rw [Str.ofString_eq_toList]
  rw [Array.all_eq_true']
  intro c hc
  simp only [List.mem_toArray, List.mem_map] at hc
  obtain ⟨ch, _, rfl⟩ := hc
  exact decide_eq_true (by
    have := ch.valid
    unfold Char.toNat
    rcases this with h | h <;> omega)
theorem sOk_from : ∀ (ts : List Str) (k : Nat) (acc : Str), PyData.strOk acc = true → (∀ t ∈ ts, PyData.strOk t = true) → PyData.strOk (textFrom k acc ts) = true
  | [], k, acc, h, _ => h
  | t :: ts, k, acc, h, g => sOk_from ts (k + 1) _ (sOk_ap (sOk_ap h (sOk_of _)) (g t List.mem_cons_self)) fun x hx => g x (List.mem_cons_of_mem _ hx)
theorem sOk_join : ∀ ts : List Str, (∀ t ∈ ts, PyData.strOk t = true) → PyData.strOk (Str.join ", " ts) = true
  | [], _ => by decide +kernel
  | [x], h => h x List.mem_cons_self
  | x :: y :: r, h => sOk_ap (sOk_ap (h x List.mem_cons_self) (sOk_of _)) (sOk_join (y :: r) fun t ht => h t (List.mem_cons_of_mem _ ht))
/-- what repr takes -/
structure Tx' (n m : Nat) (d : D) : Prop where
  ex : ∃ x, D.py d = some x ∧ x.canLay0 = true ∧ x.depth ≤ n ∧ x.showable = true ∧ x.leavesShort 1000 = true ∧ x.bulk ≤ m ∧ PyData.strOk x.shown = true
structure Txs (n m : Nat) (l : List D) : Prop where
  ex : ∃ xs, D.pys l = some xs ∧ PyData.canLayAll0 xs = true ∧ PyData.depthAll xs ≤ n ∧ PyData.showableAll xs = true ∧ PyData.leavesShortAll 1000 xs = true ∧ PyData.bulkAll xs ≤ l.length * (m + 1) ∧ ∀ t ∈ PyData.shownAll xs, PyData.strOk t = true
theorem txs_of {n m : Nat} : ∀ {l : List D}, (∀ d ∈ l, Tx' n m d) → Txs n m l
  | [], _ => ⟨[], rfl, by simp [PyData.canLayAll0], by simp [PyData.depthAll], by simp [PyData.showableAll], by simp [PyData.leavesShortAll], by simp [PyData.bulkAll], by simp [PyData.shownAll]⟩
  | d :: r, h => by
    obtain ⟨x, h1, h2, h3, h4, h5, h6, h7⟩ := (h d List.mem_cons_self).ex
    obtain ⟨xs, g1, g2, g3, g4, g5, g6, g7⟩ := (txs_of (l := r) fun e he => h e (List.mem_cons_of_mem _ he)).ex
    refine ⟨x :: xs, ?_, by simp [PyData.canLayAll0, h2, g2], by simp [PyData.depthAll]; omega, by simp [PyData.showableAll, h4, g4], by simp [PyData.leavesShortAll, h5, g5], ?_, fun t ht => ?_⟩
    · unfold D.pys
      rw [h1, g1]
    · rw [PyData.bulkAll, List.length_cons, Nat.succ_mul]; omega
    · rw [PyData.shownAll] at ht
      rcases List.mem_cons.mp ht with z | z
      · rw [z]; exact h7
      · exact g7 t z
theorem tx_tup {n m c : Nat} {l : List D} (h : ∀ d ∈ l, Tx' n m d) (hl : l.length ≤ c) : Tx' (n + 1) (c * (m + 1)) (.tup l) := by
  obtain ⟨xs, g1, g2, g3, g4, g5, g6, g7⟩ := (txs_of h).ex
  refine ⟨.tuple xs, by simp [D.py, g1], by simp [PyData.canLay0, g2], by simp [PyData.depth]; omega, by simp [PyData.showable, g4], by simp [PyData.leavesShort, g5], ?_, ?_⟩
  · rw [PyData.bulk]; exact Nat.le_trans g6 (Nat.mul_le_mul_right _ hl)
  · rw [PyData.shown]
    refine sOk_ap (sOk_ap (sOk_of _) (sOk_join _ g7)) ?_
    exact sOk_of _
theorem tx_lst {n m c : Nat} {l : List D} (h : ∀ d ∈ l, Tx' n m d) (hl : l.length ≤ c) : Tx' (n + 1) (c * (m + 1)) (.lst l) := by
  obtain ⟨xs, g1, g2, g3, g4, g5, g6, g7⟩ := (txs_of h).ex
  refine ⟨.list xs, by simp [D.py, g1], by simp [PyData.canLay0, g2], by simp [PyData.depth]; omega, by simp [PyData.showable, g4], by simp [PyData.leavesShort, g5], ?_, ?_⟩
  · rw [PyData.bulk]; exact Nat.le_trans g6 (Nat.mul_le_mul_right _ hl)
  · rw [PyData.shown]
    exact sOk_ap (sOk_from _ _ _ (sOk_of _) g7) (sOk_of _)
theorem tx_int {i : Int} (h : Sz 900 i) : Tx' 0 0 (.int i) := by
  have hl := h.log (by decide)
  refine ⟨.int i, rfl, by simp [PyData.canLay0], by simp [PyData.depth], by rw [PyData.showable]; exact decide_eq_true (by omega), ?_, by simp [PyData.bulk], sOk_of _⟩
  rw [PyData.leavesShort]
  refine decide_eq_true ?_
  have e := int_text_length_le (k := 900) (by decide) hl
  show (Str.ofString (toString i)).length ≤ 1000
  rw [ofString_length]; omega
theorem tx_bl (b : Bool) : Tx' 0 0 (.bl b) := by
  refine ⟨.bool b, rfl, by simp [PyData.canLay0], by simp [PyData.depth], by simp [PyData.showable], by simp [PyData.leavesShort], by simp [PyData.bulk], ?_⟩
  cases b <;> decide +kernel
theorem tx_rat {n : Nat} {q : Rat} (h : Bd n q) (hn : n ≤ 900) : Tx' 1 2 (D.rat q) := tx_tup (c := 2) (fun d hd => by
  rcases List.mem_cons.mp hd with rfl | hd
  · exact tx_int (h.num.mono hn)
  · rw [List.mem_singleton.mp hd]; exact tx_int (h.den.mono hn)) (Nat.le_refl _)
theorem tx_pt {k n : Nat} {p : List Rat} (h : PtOk k n p) (hk : k ≤ 2) (hn : n ≤ 900) : Tx' 2 6 (D.pt p) := tx_tup (c := 2) (fun d hd => by
  obtain ⟨q, hq, rfl⟩ := List.mem_map.mp hd
  exact tx_rat (h.bd q hq) hn) (by rw [List.length_map, h.len]; exact hk)
/-- equal things have equal texts -/
theorem repr_same {n m : Nat} {a b : XF} {d : D} {σ : En} {w w1 w2 : Pn} (ha : a σ w = some (.ok d w1)) (hb : b σ w1 = some (.ok d w2)) (h : Tx' n m d) (hn : n ≤ 40) (hm : m ≤ 10000) (hs : seqOf d ≠ none) : xcmp .ne (xrepr a) (xrepr b) σ w = some (.ok (.bl false) w2) := by
  obtain ⟨x, h1, h2, h3, h4, h5, h6, h7⟩ := h.ex
  have hd : x.hasDict = false := PyData.hasDict_of_canLay x h2
  have hlen : x.shown.length ≤ sizeLine := by
    have h0 := PyData.shown_le_bulk 1000 (by decide) x h5
    have : (1000 + 2) * x.bulk ≤ (1000 + 2) * 10000 := Nat.mul_le_mul_left _ (by omega)
    rw [sizeLine_eq]; omega
  have cond : (x.showable && !x.hasDict && decide (x.depth ≤ 40) && decide (x.shown.length ≤ sizeLine)) = true := by
    rw [h4, hd, decide_eq_true (show x.depth ≤ 40 by omega), decide_eq_true hlen]; rfl
  have er : repF d = some (.str x.shown) := by
    cases d with
    | tup l => simp only [repF, h1]; rw [if_pos cond]
    | lst l => simp only [repF, h1]; rw [if_pos cond]
    | _ => exact absurd rfl hs
  have e1 : xrepr a σ w = some (.ok (.str x.shown) w1) := by unfold xrepr; rw [ha, bnd_ok, er]; rfl
  have e2 : xrepr b σ w1 = some (.ok (.str x.shown) w2) := by unfold xrepr; rw [hb, bnd_ok, er]; rfl
  refine cmp_ok e1 e2 ?_
  exact nec_self (n := 0) ⟨.str x.shown, rfl, by rw [PyData.canLay0]; exact h7, by simp [PyData.depth]⟩ (by decide)
end Rh
set_option Elab.async false
set_option linter.all false
set_option maxRecDepth 100000
set_option maxHeartbeats 4000000
/-! Rh: which Lots are formed. -/
namespace Rh
open PySem L2
inductive Kin : Nat → List (List Int) → Prop
  | one : Kin 1 one2
  | two {rays : List (List Int)} : Fam rays → Kin 2 rays
def rowOf (rays : List (List Int)) (pts : List (List Rat)) : List Rat := rays.map fun r => great r pts
structure PtsOk (k : Nat) (pts : List (List Rat)) : Prop where
  ne : pts ≠ []
  len : pts.length ≤ 10
  ok : ∀ p ∈ pts, PtOk k 5 p
section
variable {k : Nat} {rays : List (List Int)}
theorem Kin.k12 (K : Kin k rays) : k = 1 ∨ k = 2 := by cases K <;> simp
theorem Kin.n2 (K : Kin k rays) : 2 ≤ rays.length := by
  cases K with
  | one => decide
  | two F => have := F.n3; omega
theorem Kin.n7 (K : Kin k rays) : rays.length ≤ 7 := by
  cases K with
  | one => decide
  | two F => exact F.n7
theorem Kin.rok (K : Kin k rays) : ∀ r ∈ rays, RayOk k r := by
  cases K with
  | one =>
    intro r hr
    rcases List.mem_cons.mp hr with z | z
    · rw [z]; exact ⟨rfl, fun a ha => by rw [List.mem_singleton.mp ha]; show (1 : Nat) < 2 ^ 4; decide⟩
    · rw [List.mem_singleton.mp z]; exact ⟨rfl, fun a ha => by rw [List.mem_singleton.mp ha]; show (1 : Nat) < 2 ^ 4; decide⟩
  | two F => exact fun r hr => rayB_rayOk (F.ray r hr)
theorem Kin.areT (K : Kin k rays) (w : Pn) : are_raysF [.tup (rays.map D.ray), .int (k : Int)] w = some (.ok (.bl true) w) := by
  cases K with
  | one => exact are_rays_one w
  | two F => exact are_rays_fam w F
theorem Kin.areR (K : Kin k rays) (w : Pn) : are_raysF [.tup (rays.reverse.map D.ray), .int (k : Int)] w = some (.ok (.bl false) w) := by
  cases K with
  | one => exact are_rays_one_rev w
  | two F => exact are_rays_rev w F
theorem topsOf_len (B : Nat) (row : List Rat) : (topsOf B row).length = row.length := List.length_map _
theorem tth_map {f : List Int → Int} {i : Nat} (h : 0 < rays.length) : tth (rays.map f) i = f (nth rays i) := by
  have e := tth_get (l := rays.map f) (i := i) (by rw [List.length_map]; exact h)
  rw [List.length_map, List.getElem?_map, nth_get h] at e
  exact (Option.some.inj e).symm
theorem nth_mod {i : Nat} : nth rays (i % rays.length) = nth rays i := by unfold nth; rw [Nat.mod_mod]
theorem nth_mod1 {i : Nat} : nth rays (i % rays.length + 1) = nth rays (i + 1) := by
  unfold nth
  rw [Nat.add_mod, Nat.mod_mod, ← Nat.add_mod]
theorem Fam.tn' (F : Fam rays) (i : Nat) : 0 < turnI (nth rays i) (nth rays (i + 1)) := by
  have h0 : 0 < rays.length := by have := F.n3; omega
  have := F.tn (i % rays.length) (Nat.mod_lt _ h0)
  rwa [nth_mod, nth_mod1] at this
theorem great_bd {pts : List (List Rat)} (K : Kin k rays) (hp : PtsOk k pts) : ∀ q ∈ rowOf rays pts, Bd 19 q := fun q hq => by
  obtain ⟨r, hr, rfl⟩ := List.mem_map.mp hq
  exact bd_great (n := 5) K.k12 (K.rok r hr) hp.ok hp.ne
theorem bul_ge {pts : List (List Rat)} {B : Nat} (F : Fam rays) (hp : PtsOk 2 pts) (hd : ∀ q ∈ rowOf rays pts, q.den ∣ B) (i : Nat) : 0 ≤ bulI rays (topsOf B (rowOf rays pts)) i := by
  have h0 : 0 < rays.length := by have := F.n3; omega
  have et : ∀ j, tth (topsOf B (rowOf rays pts)) j = (great (nth rays j) pts).num * ((B : Int) / ((great (nth rays j) pts).den : Int)) := fun j => by
    unfold topsOf rowOf
    rw [List.map_map]
    exact tth_map h0
  have ec : ∀ j, ((tth (topsOf B (rowOf rays pts)) j : Int) : Rat) = great (nth rays j) pts * (B : Rat) := fun j => by
    rw [et j]
    exact over_rat (hd _ (List.mem_map.mpr ⟨_, nth_mem h0, rfl⟩))
  have t1 := F.tn' i
  have t2 := F.tn' (i + 1)
  obtain ⟨a, b, e1, _⟩ := rayB_ok (F.ray _ (nth_mem (i := i) h0))
  obtain ⟨c, d, e2, _⟩ := rayB_ok (F.ray _ (nth_mem (i := i + 1) h0))
  obtain ⟨e, f, e3, _⟩ := rayB_ok (F.ray _ (nth_mem (i := i + 2) h0))
  have e3' : nth rays (i + 1 + 1) = [e, f] := e3
  rw [e1, e2] at t1
  rw [e2, e3'] at t2
  have g := bulge_ge (n := 5) (a := a) (b := b) (c := c) (d := d) (e := e) (f := f) hp.ok hp.ne (by exact Int.le_of_lt t2) (by exact Int.le_of_lt t1)
  have main : ((bulI rays (topsOf B (rowOf rays pts)) i : Int) : Rat) = (B : Rat) * (((c * f - d * e : Int) : Rat) * great [a, b] pts + ((a * d - b * c : Int) : Rat) * great [e, f] pts - ((a * f - b * e : Int) : Rat) * great [c, d] pts) := by
    have x1 : turnI [c, d] [e, f] = c * f - d * e := rfl
    have x2 : turnI [a, b] [c, d] = a * d - b * c := rfl
    have x3 : turnI [a, b] [e, f] = a * f - b * e := rfl
    unfold bulI
    rw [Rat.intCast_sub, Rat.intCast_add, Rat.intCast_mul, Rat.intCast_mul, Rat.intCast_mul, ec, ec, ec, e1, e2, e3, x1, x2, x3]
    grind
  have hB : (0 : Rat) ≤ (B : Rat) := by exact_mod_cast Nat.zero_le B
  have fin : (0 : Rat) ≤ ((bulI rays (topsOf B (rowOf rays pts)) i : Int) : Rat) := by
    rw [main]; exact Rat.mul_nonneg hB g
  exact_mod_cast fin
theorem Kin.round {pts : List (List Rat)} {B m : Nat} (K : Kin k rays) (hp : PtsOk k pts) (hd : ∀ q ∈ rowOf rays pts, q.den ∣ B) (hB : Sz m (B : Int)) (hm : m ≤ 50000) (w : Pn) :
    are_roundF [.tup (rays.map D.ray), .lst ((topsOf B (rowOf rays pts)).map .int)] w = some (.ok (.bl true) w) := by
  have hb := great_bd K hp
  cases K with
  | one =>
    have hq1 : (great [-1] pts).den ∣ B := hd _ (List.mem_map.mpr ⟨[-1], by simp [one2], rfl⟩)
    have hq2 : (great [1] pts).den ∣ B := hd _ (List.mem_map.mpr ⟨[1], by simp [one2], rfl⟩)
    have c1 := over_rat hq1
    have c2 := over_rat hq2
    have e := are_round_one (a := (great [-1] pts).num * ((B : Int) / ((great [-1] pts).den : Int))) (b := (great [1] pts).num * ((B : Int) / ((great [1] pts).den : Int))) w
    have ge : (0 : Rat) ≤ great [-1] pts + great [1] pts := by
      obtain ⟨p, hpm⟩ := List.exists_mem_of_ne_nil _ hp.ne
      obtain ⟨x, rfl⟩ := one_len (hp.ok p hpm).len
      have g1 := great_ge (r := [-1]) hpm
      have g2 := great_ge (r := [1]) hpm
      rw [dot_1] at g1 g2
      have i1 : ((-1 : Int) : Rat) = -1 := by decide
      have i2 : ((1 : Int) : Rat) = 1 := by decide
      rw [i1] at g1
      rw [i2] at g2
      grind
    have hB0 : (0 : Rat) ≤ (B : Rat) := by exact_mod_cast Nat.zero_le B
    have fin : (0 : Rat) ≤ (((great [-1] pts).num * ((B : Int) / ((great [-1] pts).den : Int)) + (great [1] pts).num * ((B : Int) / ((great [1] pts).den : Int)) : Int) : Rat) := by
      rw [Rat.intCast_add, c1, c2, ← Rat.add_mul]
      exact Rat.mul_nonneg ge hB0
    have fin' : (0 : Int) ≤ (great [-1] pts).num * ((B : Int) / ((great [-1] pts).den : Int)) + (great [1] pts).num * ((B : Int) / ((great [1] pts).den : Int)) := by exact_mod_cast fin
    rw [decide_eq_true fin'] at e
    exact e
  | two F =>
    have e := are_round_two (z := 19 + m) (rays := rays) (ts := topsOf B (rowOf rays pts)) w F.ray (by have := F.n3; omega) (by have := F.n7; omega) (by rw [topsOf_len]; exact List.length_map _) (fun t ht => by
      obtain ⟨q, hq, rfl⟩ := List.mem_map.mp ht
      exact sz_top (hb q hq) hB) (by omega)
    have : ((List.range rays.length).all fun i => decide (0 ≤ bulI rays (topsOf B (rowOf rays pts)) i)) = true := by
      rw [List.all_eq_true]
      exact fun i _ => decide_eq_true (bul_ge F hp hd i)
    rw [this] at e
    exact e
def m5 : Rat := -5
theorem m5_eq : D.rat m5 = .tup [.int (-5), .int 1] := rfl
theorem m5_bd : Bd 4 m5 := ⟨by show (5 : Nat) < 2 ^ 4; decide, by show (1 : Nat) < 2 ^ 4; decide⟩
/-- numbers that are too low -/
theorem Kin.flat {B m : Nat} (K : Kin k rays) (hB0 : 0 < B) (hB : Sz m (B : Int)) (hm : m ≤ 50000) (w : Pn) :
    are_roundF [.tup (rays.map D.ray), .lst ((topsOf B (rays.map fun _ => m5)).map .int)] w = some (.ok (.bl false) w) := by
  have ed : (B : Int) / (m5.den : Int) = (B : Int) := Int.ediv_one _
  have en : m5.num = -5 := rfl
  cases K with
  | one =>
    have e := are_round_one (a := m5.num * ((B : Int) / (m5.den : Int))) (b := m5.num * ((B : Int) / (m5.den : Int))) w
    have : ¬ (0 : Int) ≤ m5.num * ((B : Int) / (m5.den : Int)) + m5.num * ((B : Int) / (m5.den : Int)) := by
      rw [ed, en]; omega
    rw [decide_eq_false this] at e
    exact e
  | two F =>
    have h0 : 0 < rays.length := by have := F.n3; omega
    have e := are_round_two (z := 19 + m) (rays := rays) (ts := topsOf B (rays.map fun _ => m5)) w F.ray h0 (by have := F.n7; omega) (by rw [topsOf_len]; exact List.length_map _) (fun t ht => by
      obtain ⟨q, hq, rfl⟩ := List.mem_map.mp ht
      obtain ⟨_, _, rfl⟩ := List.mem_map.mp hq
      exact (sz_top m5_bd hB).mono (by omega)) (by omega)
    have : ((List.range rays.length).all fun i => decide (0 ≤ bulI rays (topsOf B (rays.map fun _ => m5)) i)) = false := by
      obtain ⟨i, hi, hf⟩ := F.fl
      rw [List.all_eq_false]
      refine ⟨i, List.mem_range.mpr hi, ?_⟩
      have et : ∀ j, tth (topsOf B (rays.map fun _ => m5)) j = -5 * (B : Int) := fun j => by
        unfold topsOf
        rw [List.map_map]
        refine (tth_map h0).trans ?_
        show m5.num * ((B : Int) / (m5.den : Int)) = _
        rw [ed, en]
      unfold bulI
      rw [et, et, et]
      generalize turnI (nth rays (i + 1)) (nth rays (i + 2)) = u at *
      generalize turnI (nth rays i) (nth rays (i + 1)) = v at *
      generalize turnI (nth rays i) (nth rays (i + 2)) = x at *
      have hk : u * (-5 * (B : Int)) + v * (-5 * (B : Int)) - x * (-5 * (B : Int)) = -(5 * ((u + v - x) * (B : Int))) := by grind
      rw [hk]
      have hp : 0 < (u + v - x) * (B : Int) := Int.mul_pos hf (by omega)
      rw [decide_eq_true_eq]; omega
    rw [this] at e
    exact e
theorem flat_len (rays : List (List Int)) : ∀ ptss : List (List (List Rat)), (ptss.map (rowOf rays)).flatten.length = ptss.length * rays.length
  | [] => by simp
  | p :: ps => by
    rw [List.map_cons, List.flatten_cons, List.length_append, flat_len rays ps, List.length_cons, Nat.succ_mul]
    unfold rowOf
    rw [List.length_map]; omega
theorem Kin.r0 (K : Kin k rays) : ∃ r0, (rays.map D.ray)[0]? = some (D.ray r0) ∧ r0.length = k := by
  have h := K.n2
  have e : rays[0]? = some rays[0] := List.getElem?_eq_getElem (by omega)
  exact ⟨rays[0], by rw [List.getElem?_map, e]; rfl, (K.rok _ (List.getElem_mem _)).len⟩
theorem formed_ok {ptss : List (List (List Rat))} (K : Kin k rays) (hp : ∀ pts ∈ ptss, PtsOk k pts) (h0 : ptss ≠ []) (hl : ptss.length ≤ 3) (w : Pn) : is_formedF [vLots (.tup (rays.map D.ray)) (rowsD (ptss.map (rowOf rays)))] w = some (.ok (.bl true) w) := by
  obtain ⟨r0, e0, hk⟩ := K.r0
  have h7 := K.n7
  refine formed_rays w e0 (by rw [List.length_map]; omega) hk K.k12 (K.areT w) ?_
  show fB1 _ w = _
  have hfl := flat_len rays ptss
  have hfl2 : ptss.length * rays.length ≤ 3 * 7 := Nat.mul_le_mul hl h7
  refine fB1_gen (xs := ptss.map (rowOf rays)) (h := fun row => .tup (row.map D.rat)) (f := fun _ => true) w (by simpa using h0) (by rw [List.length_map]; omega) (fun row hrow => ?_) ?_
  · obtain ⟨pts, hpts, rfl⟩ := List.mem_map.mp hrow
    have e := are_fractions_rat (rowOf rays pts) w (by unfold rowOf; rw [List.length_map]; omega)
    have : (rowOf rays pts).length = (rays.map D.ray).length := by unfold rowOf; rw [List.length_map, List.length_map]
    rw [this] at e
    exact e
  · rw [List.all_eq_true.mpr (fun _ _ => rfl)]
    show are_all_roundF [.tup (rays.map D.ray), rowsD (ptss.map (rowOf rays))] w = _
    have := are_all_round_eq (n := 19) (R := .tup (rays.map D.ray)) (rows := ptss.map (rowOf rays)) (fun _ => true) w (fun row hrow q hq => by
      obtain ⟨pts, hpts, rfl⟩ := List.mem_map.mp hrow
      exact great_bd K (hp pts hpts) q hq) (by rw [hfl]; omega) (by rw [hfl]; omega) (by rw [List.length_map]; omega) (by decide) (fun row hrow => by
      obtain ⟨pts, hpts, rfl⟩ := List.mem_map.mp hrow
      unfold rowOf; rw [List.length_map]; omega) (fun sB row hrow => by
      obtain ⟨pts, hpts, rfl⟩ := List.mem_map.mp hrow
      exact K.round (hp pts hpts) (fun q hq => bot_dvd (List.mem_flatten.mpr ⟨_, hrow, hq⟩)) sB (by rw [hfl]; omega) w)
    rw [List.all_eq_true.mpr (fun _ _ => rfl)] at this
    exact this
end
end Rh
set_option Elab.async false
set_option linter.all false
set_option maxRecDepth 100000
set_option maxHeartbeats 4000000
/-! Rh: which Lots are not formed; what is refused. -/
namespace Rh
open PySem L2
section
variable {k : Nat} {rays : List (List Int)}
theorem bad_nums {N o : D} (K : Kin k rays) (w : Pn) (h : fB1 [some (.val (vLots (.tup (rays.map D.ray)) N)), some (.val (.int (k : Int))), none] w = some (.ok (.rt o) w)) : is_formedF [vLots (.tup (rays.map D.ray)) N] w = some (.ok o w) := by
  obtain ⟨r0, e0, hk⟩ := K.r0
  have h7 := K.n7
  exact formed_rays w e0 (by rw [List.length_map]; omega) hk K.k12 (K.areT w) h
theorem bad_empty (K : Kin k rays) (w : Pn) : is_formedF [vLots (.tup (rays.map D.ray)) (.tup [])] w = some (.ok (.bl false) w) := bad_nums K w (fB1_nil w)
theorem bad_none (K : Kin k rays) (w : Pn) : is_formedF [vLots (.tup (rays.map D.ray)) .non] w = some (.ok (.bl false) w) := bad_nums K w (fB1_non w)
theorem bad_three (N : D) (w : Pn) : is_formedF [vLots (.tup [D.ray [1, 0, 0]]) N] w = some (.ok (.bl false) w) := rfl
theorem bad_rev (K : Kin k rays) (N : D) (w : Pn) : is_formedF [vLots (.tup (rays.reverse.map D.ray)) N] w = some (.ok (.bl false) w) := by
  have h2 := K.n2
  have h7 := K.n7
  have hl : 0 < rays.reverse.length := by rw [List.length_reverse]; omega
  have e : rays.reverse[0]? = some rays.reverse[0] := List.getElem?_eq_getElem hl
  have hm : rays.reverse[0] ∈ rays := List.mem_reverse.mp (List.getElem_mem hl)
  exact formed_rays (b := false) w (R := rays.reverse.map D.ray) (r0 := rays.reverse[0]) (by rw [List.getElem?_map, e]; rfl) (by rw [List.length_map, List.length_reverse]; omega) (K.rok _ hm).len K.k12 (K.areR w) rfl
/-- one row, no fractions of that number -/
theorem bad_row {d : D} (K : Kin k rays) (w : Pn) (h : are_fractionsF [d, .int ((rays.map D.ray).length : Int)] w = some (.ok (.bl false) w)) : is_formedF [vLots (.tup (rays.map D.ray)) (.tup [d])] w = some (.ok (.bl false) w) :=
  bad_nums K w (fB1_gen (xs := [d]) (h := id) (f := fun _ => false) w (by simp) (by simp) (fun x hx => by rw [List.mem_singleton.mp hx]; exact h) rfl)
theorem frac_not {l : List D} {n : Nat} (w : Pn) (h : l.length ≠ n) : are_fractionsF [.tup l, .int (n : Int)] w = some (.ok (.bl false) w) := by
  have e := is_listed_t l w
  have c : (((l.length : Nat) : Int) == ((n : Nat) : Int)) = false := by rw [beq_eq_false_iff_ne]; omega
  simp only [fnF, List.length_cons, List.length_nil, Nat.reduceAdd, Nat.reduceSub, if_true, start_eq, List.map_cons, List.map_nil, List.cons_append, List.nil_append, List.append_nil, List.replicate, scons, snil_eq, spass_eq, sasg, sret, sexpr, site, srais, saug, spar2, spar3, xbui, xbin, xcmp, xneg, xidx, xtup, xlst, xcall, xisi, xnot, xand, xor, xife, xtru, xcst, tand, tor, tnot, tyes, acons, anil, xvar, slot_z, slot_s, mslot_z, mslot_s, opt_some, bnd_ok, bu_gcd, Int.natAbs_natCast, setT, List.set_cons_succ, List.set_cons_zero, Option.map_some, small0, small1, small2, small3, idx_tup, idx_lst, at2_0, at2_1, at1_0, bo_add, bo_sub, co_lt, co_le, co_gt, co_ge, co_isN, ne_int, eqc_int, tru_bl, tru_int, tru_non, tru_lst, bu_int, bu_abs, bu_lenT, bu_lenL, bu_tupT, bu_tupL, isi_lt, isi_ll, isi_ii, isi_ib, isi_bi, isi_bb, decide_true, decide_false, Bool.not_true, Bool.not_false, Bool.false_eq_true, if_false, D.isNon, negF, are_fractionsF, are_fractionsB, e, c]
theorem frac_notl {l : List D} {n : Nat} (w : Pn) (h : l.length ≠ n) : are_fractionsF [.lst l, .int (n : Int)] w = some (.ok (.bl false) w) := by
  have e := is_listed_l l w
  have c : (((l.length : Nat) : Int) == ((n : Nat) : Int)) = false := by rw [beq_eq_false_iff_ne]; omega
  simp only [fnF, List.length_cons, List.length_nil, Nat.reduceAdd, Nat.reduceSub, if_true, start_eq, List.map_cons, List.map_nil, List.cons_append, List.nil_append, List.append_nil, List.replicate, scons, snil_eq, spass_eq, sasg, sret, sexpr, site, srais, saug, spar2, spar3, xbui, xbin, xcmp, xneg, xidx, xtup, xlst, xcall, xisi, xnot, xand, xor, xife, xtru, xcst, tand, tor, tnot, tyes, acons, anil, xvar, slot_z, slot_s, mslot_z, mslot_s, opt_some, bnd_ok, bu_gcd, Int.natAbs_natCast, setT, List.set_cons_succ, List.set_cons_zero, Option.map_some, small0, small1, small2, small3, idx_tup, idx_lst, at2_0, at2_1, at1_0, bo_add, bo_sub, co_lt, co_le, co_gt, co_ge, co_isN, ne_int, eqc_int, tru_bl, tru_int, tru_non, tru_lst, bu_int, bu_abs, bu_lenT, bu_lenL, bu_tupT, bu_tupL, isi_lt, isi_ll, isi_ii, isi_ib, isi_bi, isi_bb, decide_true, decide_false, Bool.not_true, Bool.not_false, Bool.false_eq_true, if_false, D.isNon, negF, are_fractionsF, are_fractionsB, e, c]
theorem frac_gen {α : Type} {l : List α} {g : α → D} {f : α → Bool} {S : D} (w : Pn) (hs : seqOf S = some (l.map g)) (hl : l.length ≤ 1000000) (hi : is_listedF [S] w = some (.ok (.bl true) w)) (hlen : buF .len [S] = some (.int (l.length : Int))) (h : ∀ x ∈ l, is_fractionF [g x] w = some (.ok (.bl (f x)) w)) :
    are_fractionsF [S, .int (l.length : Int)] w = some (.ok (.bl (l.all f)) w) := by
  have e := comp_of (σ := [some (.val S), some (.val (.int (l.length : Int))), none]) (own := [2]) (t := .nm 2) (s := srcSeq (xvar 0)) (e := xcall is_fractionF (acons (xvar 2) anil)) (w := w) l g (fun x => D.bl (f x)) (by
    unfold srcSeq
    show bnd (some (Out.ok S w)) _ = _
    rw [bnd_ok, hs]; rfl) (fun x hx => ⟨[some (.val S), some (.val (.int (l.length : Int))), some (.val (g x))], rfl, call_ok (ds := [g x]) rfl (h x hx)⟩) hl
  have a := bools_are f l
  refine fn_rt rfl ?_
  unfold are_fractionsB
  refine sc_rt (ret_ok ?_)
  have st : startE 3 [S, .int (l.length : Int)] = [some (.val S), some (.val (.int (l.length : Int))), none] := rfl
  rw [st]
  refine (xand_t (call_ok (ds := [S]) rfl hi)).trans ((xand_t (cmp_ok (u := .int (l.length : Int)) (v := .int (l.length : Int)) (bui_ok (ds := [S]) rfl hlen) rfl (by rw [eqc_int, beq_self_eq_true]))).trans ?_)
  exact bui_ok (args_1 e) a
theorem frac_tup {α : Type} {l : List α} {g : α → D} {f : α → Bool} (w : Pn) (hl : l.length ≤ 1000000) (h : ∀ x ∈ l, is_fractionF [g x] w = some (.ok (.bl (f x)) w)) : are_fractionsF [.tup (l.map g), .int (l.length : Int)] w = some (.ok (.bl (l.all f)) w) :=
  frac_gen w rfl hl (is_listed_t _ w) (by rw [bu_lenT, List.length_map]) h
theorem frac_lst {α : Type} {l : List α} {g : α → D} {f : α → Bool} (w : Pn) (hl : l.length ≤ 1000000) (h : ∀ x ∈ l, is_fractionF [g x] w = some (.ok (.bl (f x)) w)) : are_fractionsF [.lst (l.map g), .int (l.length : Int)] w = some (.ok (.bl (l.all f)) w) :=
  frac_gen w rfl hl (is_listed_l _ w) (by rw [bu_lenL, List.length_map]) h
theorem all_false {α : Type} {l : List α} (h : l ≠ []) : (l.all fun _ => false) = false := by
  cases l with
  | nil => exact absurd rfl h
  | cons a r => rfl
theorem bad_short (K : Kin k rays) (w : Pn) : is_formedF [vLots (.tup (rays.map D.ray)) (.tup [.tup [D.rat 0]])] w = some (.ok (.bl false) w) :=
  bad_row K w (frac_not w (by have := K.n2; rw [List.length_map]; show 1 ≠ _; omega))
theorem K_ne (K : Kin k rays) : rays ≠ [] := fun z => by have := K.n2; rw [z] at this; simp at this
theorem bad_two (K : Kin k rays) (w : Pn) : is_formedF [vLots (.tup (rays.map D.ray)) (.tup [.tup (rays.map fun _ => .tup [.int 0, .int 2])])] w = some (.ok (.bl false) w) := by
  have e := frac_tup (l := rays) (g := fun _ => .tup [.int 0, .int 2]) (f := fun _ => false) w (by have := K.n7; omega) fun _ _ => rfl
  rw [all_false (K_ne K)] at e
  refine bad_row K w ?_
  rw [List.length_map]; exact e
theorem bad_mix (K : Kin k rays) (w : Pn) : is_formedF [vLots (.tup (rays.map D.ray)) (.tup [.tup (rays.map fun _ => D.rat 0), .non])] w = some (.ok (.bl false) w) := by
  have e := frac_tup (l := rays) (g := fun _ => D.rat 0) (f := fun _ => true) w (by have := K.n7; omega) fun _ _ => is_fraction_rat 0 w
  rw [List.all_eq_true.mpr (fun _ _ => rfl)] at e
  refine bad_nums K w (fB1_gen (xs := [true, false]) (h := fun b => if b = true then .tup (rays.map fun _ => D.rat 0) else .non) (f := id) w (by simp) (by decide) (fun x hx => ?_) rfl)
  cases x with
  | true => rw [List.length_map]; exact e
  | false => rfl
theorem bad_flat (K : Kin k rays) (w : Pn) : is_formedF [vLots (.tup (rays.map D.ray)) (rowsD [rays.map fun _ => m5])] w = some (.ok (.bl false) w) := by
  have h7 := K.n7
  refine bad_nums K w (fB1_gen (xs := [rays.map fun _ => m5]) (h := fun row => .tup (row.map D.rat)) (f := fun _ => true) w (by simp) (by simp) (fun row hrow => ?_) ?_)
  · rw [List.mem_singleton.mp hrow]
    have e := are_fractions_rat (rays.map fun _ => m5) w (by rw [List.length_map]; omega)
    rw [List.length_map] at e ⊢
    exact e
  · show are_all_roundF [.tup (rays.map D.ray), rowsD [rays.map fun _ => m5]] w = _
    have hfl : ([rays.map fun _ => m5] : List (List Rat)).flatten.length = rays.length := by simp
    have := are_all_round_eq (n := 19) (R := .tup (rays.map D.ray)) (rows := [rays.map fun _ => m5]) (fun _ => false) w (fun row hrow q hq => by
      rw [List.mem_singleton.mp hrow] at hq
      obtain ⟨_, _, rfl⟩ := List.mem_map.mp hq
      exact m5_bd.mono (by decide)) (by rw [hfl]; omega) (by rw [hfl]; omega) (by simp) (by decide) (fun row hrow => by
      rw [List.mem_singleton.mp hrow, List.length_map]; omega) (fun sB row hrow => by
      rw [List.mem_singleton.mp hrow]
      exact K.flat (bot_pos _) sB (by rw [hfl]; omega) w)
    exact this
end
/-! ### need_lots -/
theorem num_field (R N : D) : fldF 3 (vLots R N) = some N := rfl
theorem need_bad {v g : D} {w : Pn} (h : is_formedF [v] w = some (.ok (.bl false) w)) : need_lotsF [v, g] w = some (.ex 1 (.str "held") w) := by
  refine fn_ex rfl ?_
  unfold need_lotsB
  exact sc_ex (exp_ex (call_ok (args_c (call_ok (ds := [v]) rfl h) rfl) (need_value_f _ w)))
theorem need_rest {R : D} {l : List D} {g : D} {w : Pn} {o : Option (Out D)} (h : is_formedF [vLots R (.tup l)] w = some (.ok (.bl true) w)) (hn : need_numberF [g, .str "guess", .int 0, .int ((l.length : Int) - 1)] w = o) :
    xcall need_numberF (acons (xvar 1) (acons (xcst (.str "guess")) (acons (xcst (.int 0)) (acons (xbin .sub (xbui .len (acons (xfld (xvar 0) 1 3) anil)) (xcst (.int 1))) (anil))))) [some (.val (vLots R (.tup l))), some (.val g)] w = o := by
  refine call_ok (ds := [g, .str "guess", .int 0, .int ((l.length : Int) - 1)]) ?_ hn
  exact args_c rfl (args_c rfl (args_c rfl (args_1 (bin_ok (bui_ok (args_1 (d := .tup l) rfl) (bu_lenT l)) rfl (bo_sub _ _)))))
theorem need_ok {R : D} {l : List D} {i : Nat} {w : Pn} (h : is_formedF [vLots R (.tup l)] w = some (.ok (.bl true) w)) (hi : i < l.length) : need_lotsF [vLots R (.tup l), .int (i : Int)] w = some (.ok .non w) := by
  refine fn_nx (τ := [some (.val (vLots R (.tup l))), some (.val (.int (i : Int)))]) rfl ?_
  unfold need_lotsB
  refine (sc_nx (exp_ok (call_ok (args_c (call_ok (ds := [vLots R (.tup l)]) rfl h) rfl) (need_value_t _ w)))).trans ?_
  exact (sc_nx (exp_ok (need_rest h (need_number_t _ w (by omega) (by omega))))).trans rfl
theorem need_num {R : D} {l : List D} {g : D} {w : Pn} (h : is_formedF [vLots R (.tup l)] w = some (.ok (.bl true) w)) (hg : need_numberF [g, .str "guess", .int 0, .int ((l.length : Int) - 1)] w = some (.ex 0 (.str "guess") w)) : need_lotsF [vLots R (.tup l), g] w = some (.ex 0 (.str "guess") w) := by
  refine fn_ex rfl ?_
  unfold need_lotsB
  refine (sc_nx (exp_ok (call_ok (args_c (call_ok (ds := [vLots R (.tup l)]) rfl h) rfl) (need_value_t _ w)))).trans ?_
  exact sc_ex (exp_ex (need_rest h hg))
theorem odd_int {i m : Int} {w : Pn} (h : ¬ (0 ≤ i ∧ i ≤ m)) : need_numberF [.int i, .str "guess", .int 0, .int m] w = some (.ex 0 (.str "guess") w) := by
  have e := is_within_ii i 0 m w
  have : (decide (0 ≤ i) && decide (i ≤ m)) = false := by
    rw [Bool.and_eq_false_iff]
    by_cases h1 : 0 ≤ i
    · exact .inr (decide_eq_false fun z => h ⟨h1, z⟩)
    · exact .inl (decide_eq_false h1)
  rw [this] at e
  simp only [fnF, List.length_cons, List.length_nil, Nat.reduceAdd, Nat.reduceSub, if_true, start_eq, List.map_cons, List.map_nil, List.cons_append, List.nil_append, List.append_nil, List.replicate, scons, snil_eq, spass_eq, sasg, sret, sexpr, site, srais, saug, spar2, spar3, xbui, xbin, xcmp, xneg, xidx, xtup, xlst, xcall, xisi, xnot, xand, xor, xife, xtru, xcst, tand, tor, tnot, tyes, acons, anil, xvar, slot_z, slot_s, mslot_z, mslot_s, opt_some, bnd_ok, bu_gcd, Int.natAbs_natCast, setT, List.set_cons_succ, List.set_cons_zero, Option.map_some, small0, small1, small2, small3, idx_tup, idx_lst, at2_0, at2_1, at1_0, bo_add, bo_sub, co_lt, co_le, co_gt, co_ge, co_isN, ne_int, eqc_int, tru_bl, tru_int, tru_non, tru_lst, bu_int, bu_abs, bu_lenT, bu_lenL, bu_tupT, bu_tupL, isi_lt, isi_ll, isi_ii, isi_ib, isi_bi, isi_bb, decide_true, decide_false, Bool.not_true, Bool.not_false, Bool.false_eq_true, if_false, D.isNon, negF, need_numberF, need_numberB, e, bnd_ex]
theorem odd_non {m : Int} {w : Pn} : need_numberF [.non, .str "guess", .int 0, .int m] w = some (.ex 0 (.str "guess") w) := rfl
theorem odd_str {m : Int} {s : Str} {w : Pn} : need_numberF [.str s, .str "guess", .int 0, .int m] w = some (.ex 0 (.str "guess") w) := rfl
theorem odd_bl {m : Int} {b : Bool} {w : Pn} : need_numberF [.bl b, .str "guess", .int 0, .int m] w = some (.ex 0 (.str "guess") w) := rfl
/-! ### what need_lots raises is raised -/
section
variable {v g p d : D} {c : Nat} {w : Pn}
theorem args_2 {σ : En} {x y : Option Sl} : acons (xvar 0) (acons (xvar 1) anil) (some (.val v) :: some (.val g) :: σ) w = some (.ok [v, g] w) := rfl
theorem is_in_ex (h : need_lotsF [v, g] w = some (.ex c d w)) : is_inF [v, g, p] w = some (.ex c d w) := by
  refine fn_ex rfl ?_
  unfold is_inB
  exact sc_ex (exp_ex (call_ok (ds := [v, g]) rfl h))
theorem corners_ex (h : need_lotsF [v, g] w = some (.ex c d w)) : cornersF [v, g] w = some (.ex c d w) := by
  refine fn_ex rfl ?_
  unfold cornersB
  exact sc_ex (exp_ex (call_ok (ds := [v, g]) rfl h))
theorem widths_ex (h : need_lotsF [v, g] w = some (.ex c d w)) : widthsF [v, g] w = some (.ex c d w) := by
  refine fn_ex rfl ?_
  unfold widthsB
  refine sc_ex ?_
  unfold spar2m
  rw [call_ok (ds := [v, g]) rfl (corners_ex h)]; rfl
theorem middle_ex (h : need_lotsF [v, g] w = some (.ex c d w)) : middleF [v, g] w = some (.ex c d w) := by
  refine fn_ex rfl ?_
  unfold middleB
  refine sc_ex ?_
  unfold spar2m
  rw [call_ok (ds := [v, g]) rfl (corners_ex h)]; rfl
end
end Rh
set_option Elab.async false
set_option linter.all false
set_option maxRecDepth 100000
set_option maxHeartbeats 4000000
/-! Rh: is_in; corners. -/
namespace Rh
open PySem L2
/-! ### worths of listed points -/
def D.ptl (p : List Rat) : D := .lst (p.map D.rat)
theorem worth_by_l {k n : Nat} (hk : k = 1 ∨ k = 2) {r : List Int} {p : List Rat} (w : Pn) (hr : RayOk k r) (hp : PtOk k n p) (h : n ≤ 3000) : worth_byF [D.ray r, D.ptl p] w = some (.ok (D.rat (dot r p)) w) := by
  rcases hk with rfl | rfl
  · obtain ⟨a, rfl⟩ := one_len hr.len
    obtain ⟨x, rfl⟩ := one_len hp.len
    have hx := hp.bd x (by simp)
    have ha := hr.sz a (by simp)
    have e1 := times_eq w hx ha (by omega)
    have e2 := plus_eq (q := x * (a : Rat)) w bd_zero (bd_mul hx ha) (by omega)
    rw [Rat.zero_add, rat_zero] at e2
    have e : dot [a] [x] = x * (a : Rat) := dot_1 a x
    rw [e]
    unfold D.ray D.ptl
    simp only [fnF, List.length_cons, List.length_nil, Nat.reduceAdd, Nat.reduceSub, if_true, start_eq, List.map_cons, List.map_nil, List.cons_append, List.nil_append, List.append_nil, List.replicate, scons, snil_eq, spass_eq, sasg, sret, sexpr, site, srais, saug, spar2, spar3, xbui, xbin, xcmp, xneg, xidx, xtup, xlst, xcall, xisi, xnot, xand, xor, xife, xtru, xcst, tand, tor, tnot, tyes, acons, anil, xvar, slot_z, slot_s, mslot_z, mslot_s, opt_some, bnd_ok, bu_gcd, Int.natAbs_natCast, setT, List.set_cons_succ, List.set_cons_zero, Option.map_some, small0, small1, small2, small3, idx_tup, idx_lst, at2_0, at2_1, at1_0, bo_add, bo_sub, co_lt, co_le, co_gt, co_ge, co_isN, ne_int, eqc_int, tru_bl, tru_int, tru_non, tru_lst, bu_int, bu_abs, bu_lenT, bu_lenL, bu_tupT, bu_tupL, isi_lt, isi_ll, isi_ii, isi_ib, isi_bi, isi_bb, decide_true, decide_false, Bool.not_true, Bool.not_false, Bool.false_eq_true, if_false, D.isNon, negF, worth_byF, worth_byB, sfor, srcZip, seq_t, seq_l, zip1, forL, setTs2, e1, e2]
  · obtain ⟨a, b, rfl⟩ := two_len hr.len
    obtain ⟨x, y, rfl⟩ := two_len hp.len
    have hx := hp.bd x (by simp)
    have ha := hr.sz a (by simp)
    have hy := hp.bd y (by simp)
    have hb := hr.sz b (by simp)
    have e1 := times_eq w hx ha (by omega)
    have e2 := plus_eq (q := x * (a : Rat)) w bd_zero (bd_mul hx ha) (by omega)
    have e3 := times_eq w hy hb (by omega)
    have e4 := plus_eq w (bd_mul hx ha) (bd_mul hy hb) (by omega)
    rw [Rat.zero_add, rat_zero] at e2
    have e : dot [a, b] [x, y] = x * (a : Rat) + y * (b : Rat) := dot_2 a b x y
    rw [e]
    unfold D.ray D.ptl
    simp only [fnF, List.length_cons, List.length_nil, Nat.reduceAdd, Nat.reduceSub, if_true, start_eq, List.map_cons, List.map_nil, List.cons_append, List.nil_append, List.append_nil, List.replicate, scons, snil_eq, spass_eq, sasg, sret, sexpr, site, srais, saug, spar2, spar3, xbui, xbin, xcmp, xneg, xidx, xtup, xlst, xcall, xisi, xnot, xand, xor, xife, xtru, xcst, tand, tor, tnot, tyes, acons, anil, xvar, slot_z, slot_s, mslot_z, mslot_s, opt_some, bnd_ok, bu_gcd, Int.natAbs_natCast, setT, List.set_cons_succ, List.set_cons_zero, Option.map_some, small0, small1, small2, small3, idx_tup, idx_lst, at2_0, at2_1, at1_0, bo_add, bo_sub, co_lt, co_le, co_gt, co_ge, co_isN, ne_int, eqc_int, tru_bl, tru_int, tru_non, tru_lst, bu_int, bu_abs, bu_lenT, bu_lenL, bu_tupT, bu_tupL, isi_lt, isi_ll, isi_ii, isi_ib, isi_bi, isi_bb, decide_true, decide_false, Bool.not_true, Bool.not_false, Bool.false_eq_true, if_false, D.isNon, negF, worth_byF, worth_byB, sfor, srcZip, seq_t, seq_l, zip2, forL, setTs2, e1, e2, e3, e4]
/-! ### is_in -/
def inBody : SF := scons (sasg (.nm 5) (xcall worth_byF (acons (xvar 3) (acons (xvar 2) (anil))))) (scons (site (xtru (xcmp .gt (xbin .mul (xidx (xvar 5) (xcst (.int 0))) (xidx (xvar 4) (xcst (.int 1)))) (xbin .mul (xidx (xvar 4) (xcst (.int 0))) (xidx (xvar 5) (xcst (.int 1)))))) (scons (sret (xcst (.bl false))) (snil)) (snil)) (snil))
def zipB (l : List (List Int × Rat)) (p : List Rat) : Bool := l.all fun x => decide (dot x.1 p ≤ x.2)
theorem in_step {A B C x : Option Sl} {P : D} {d q : Rat} {r : List Int} {m n : Nat} {w : Pn} (hw : worth_byF [D.ray r, P] w = some (.ok (D.rat d) w)) (hd : Bd m d) (hq : Bd n q) (hmn : m + n ≤ 8000) :
    inBody [A, B, some (.val P), some (.val (D.ray r)), some (.val (D.rat q)), x] w = if d ≤ q then some (.ok (.nx [A, B, some (.val P), some (.val (D.ray r)), some (.val (D.rat q)), some (.val (D.rat d))]) w) else some (.ok (.rt (.bl false)) w) := by
  have h1 := mul_ok hd.num hq.den (by omega)
  have h2 := mul_ok hq.num hd.den (by omega)
  have v1 : idxF (D.rat d) (.int 0) = some (.int d.num) := rfl
  have v2 : idxF (D.rat d) (.int 1) = some (.int (d.den : Int)) := rfl
  have v3 : idxF (D.rat q) (.int 0) = some (.int q.num) := rfl
  have v4 : idxF (D.rat q) (.int 1) = some (.int (q.den : Int)) := rfl
  have le := Rat.le_iff d q
  unfold inBody
  by_cases c : d ≤ q
  · have c2 : ¬ q.num * (d.den : Int) < d.num * (q.den : Int) := by have := le.mp c; omega
    rw [if_pos c]
    simp only [fnF, List.length_cons, List.length_nil, Nat.reduceAdd, Nat.reduceSub, if_true, start_eq, List.map_cons, List.map_nil, List.cons_append, List.nil_append, List.append_nil, List.replicate, scons, snil_eq, spass_eq, sasg, sret, sexpr, site, srais, saug, spar2, spar3, xbui, xbin, xcmp, xneg, xidx, xtup, xlst, xcall, xisi, xnot, xand, xor, xife, xtru, xcst, tand, tor, tnot, tyes, acons, anil, xvar, slot_z, slot_s, mslot_z, mslot_s, opt_some, bnd_ok, bu_gcd, Int.natAbs_natCast, setT, List.set_cons_succ, List.set_cons_zero, Option.map_some, small0, small1, small2, small3, idx_tup, idx_lst, at2_0, at2_1, at1_0, bo_add, bo_sub, co_lt, co_le, co_gt, co_ge, co_isN, ne_int, eqc_int, tru_bl, tru_int, tru_non, tru_lst, bu_int, bu_abs, bu_lenT, bu_lenL, bu_tupT, bu_tupL, isi_lt, isi_ll, isi_ii, isi_ib, isi_bi, isi_bb, decide_true, decide_false, Bool.not_true, Bool.not_false, Bool.false_eq_true, if_false, D.isNon, negF, hw, v1, v2, v3, v4, bo_mul h1, bo_mul h2, c2]
  · have c2 : q.num * (d.den : Int) < d.num * (q.den : Int) := by
      have : ¬ d.num * (q.den : Int) ≤ q.num * (d.den : Int) := fun z => c (le.mpr z)
      omega
    rw [if_neg c]
    simp only [fnF, List.length_cons, List.length_nil, Nat.reduceAdd, Nat.reduceSub, if_true, start_eq, List.map_cons, List.map_nil, List.cons_append, List.nil_append, List.append_nil, List.replicate, scons, snil_eq, spass_eq, sasg, sret, sexpr, site, srais, saug, spar2, spar3, xbui, xbin, xcmp, xneg, xidx, xtup, xlst, xcall, xisi, xnot, xand, xor, xife, xtru, xcst, tand, tor, tnot, tyes, acons, anil, xvar, slot_z, slot_s, mslot_z, mslot_s, opt_some, bnd_ok, bu_gcd, Int.natAbs_natCast, setT, List.set_cons_succ, List.set_cons_zero, Option.map_some, small0, small1, small2, small3, idx_tup, idx_lst, at2_0, at2_1, at1_0, bo_add, bo_sub, co_lt, co_le, co_gt, co_ge, co_isN, ne_int, eqc_int, tru_bl, tru_int, tru_non, tru_lst, bu_int, bu_abs, bu_lenT, bu_lenL, bu_tupT, bu_tupL, isi_lt, isi_ll, isi_ii, isi_ib, isi_bi, isi_bb, decide_true, decide_false, Bool.not_true, Bool.not_false, Bool.false_eq_true, if_false, D.isNon, negF, hw, v1, v2, v3, v4, bo_mul h1, bo_mul h2, c2]
theorem in_loop {A B : Option Sl} {P : D} {p : List Rat} {m n : Nat} (w : Pn) (hmn : m + n ≤ 8000) : ∀ (l : List (List Int × Rat)) (x y z : Option Sl), (∀ u ∈ l, worth_byF [D.ray u.1, P] w = some (.ok (D.rat (dot u.1 p)) w) ∧ Bd m (dot u.1 p) ∧ Bd n u.2) →
    (zipB l p = true → ∃ σ, forL (.tp [3, 4]) inBody (l.map fun u => .tup [D.ray u.1, D.rat u.2]) [A, B, some (.val P), x, y, z] w = some (.ok (.nx σ) w)) ∧ (zipB l p = false → forL (.tp [3, 4]) inBody (l.map fun u => .tup [D.ray u.1, D.rat u.2]) [A, B, some (.val P), x, y, z] w = some (.ok (.rt (.bl false)) w))
  | [], x, y, z, _ => ⟨fun _ => ⟨_, rfl⟩, fun h => by cases h⟩
  | u :: l, x, y, z, h => by
    obtain ⟨h1, h2, h3⟩ := h u List.mem_cons_self
    have ih := in_loop (A := A) (B := B) w hmn l (some (.val (D.ray u.1))) (some (.val (D.rat u.2))) (some (.val (D.rat (dot u.1 p)))) fun v hv => h v (List.mem_cons_of_mem _ hv)
    have st := in_step (A := A) (B := B) (C := none) (x := z) h1 h2 h3 hmn
    have ex : forL (.tp [3, 4]) inBody ((u :: l).map fun u => .tup [D.ray u.1, D.rat u.2]) [A, B, some (.val P), x, y, z] w = bnd (inBody [A, B, some (.val P), some (.val (D.ray u.1)), some (.val (D.rat u.2)), z] w) fun f w => match f with
      | .nx τ => forL (.tp [3, 4]) inBody (l.map fun u => .tup [D.ray u.1, D.rat u.2]) τ w
      | .ct τ => forL (.tp [3, 4]) inBody (l.map fun u => .tup [D.ray u.1, D.rat u.2]) τ w
      | .bk τ => some (.ok (.nx τ) w)
      | .rt d => some (.ok (.rt d) w) := rfl
    rw [ex, st]
    have ez : zipB (u :: l) p = (decide (dot u.1 p ≤ u.2) && zipB l p) := rfl
    rw [ez]
    by_cases c : dot u.1 p ≤ u.2
    · rw [if_pos c, decide_eq_true c, Bool.true_and]
      exact ih
    · rw [if_neg c, decide_eq_false c, Bool.false_and]
      exact ⟨fun z => (nomatch z), fun _ => rfl⟩
theorem zipB_inB {rays : List (List Int)} {row : List Rat} {p : List Rat} (hl : row.length = rays.length) : zipB (rays.zip row) p = inB rays row p := by
  unfold zipB inB
  rw [Bool.eq_iff_iff, List.all_eq_true, List.all_eq_true]
  constructor
  · rintro h ⟨r, i⟩ hx
    have hx' := List.mem_zipIdx hx
    have hi : i < rays.length := by omega
    have er : r = rays[i] := by have := hx'.2.2; simpa using this
    have hz : (rays[i], row[i]'(by omega)) ∈ rays.zip row := by
      have : (rays.zip row)[i]'(by rw [List.length_zip]; omega) = (rays[i], row[i]'(by omega)) := List.getElem_zip
      rw [← this]; exact List.getElem_mem _
    have := h _ hz
    have hi2 : i < row.length := by omega
    have eg : row.getD i 0 = row[i] := by rw [List.getD_eq_getElem?_getD, List.getElem?_eq_getElem hi2]; rfl
    show decide (dot r p ≤ row.getD i 0) = true
    rw [eg, er]; exact this
  · rintro h ⟨r, q⟩ hx
    obtain ⟨i, hi, e⟩ := List.getElem_of_mem hx
    rw [List.length_zip] at hi
    have e' : (rays.zip row)[i]'(by rw [List.length_zip]; omega) = (rays[i]'(by omega), row[i]'(by omega)) := List.getElem_zip
    rw [e'] at e
    cases e
    have := h (rays[i]'(by omega), i) (by
      have e2 : rays.zipIdx[i]'(by rw [List.length_zipIdx]; omega) = (rays[i]'(by omega), 0 + i) := List.getElem_zipIdx _
      rw [Nat.zero_add] at e2
      rw [← e2]; exact List.getElem_mem _)
    have eg : row.getD i 0 = row[i]'(by omega) := by rw [List.getD_eq_getElem?_getD, List.getElem?_eq_getElem (by omega)]; rfl
    rw [← eg]; exact this
theorem zip_map (rays : List (List Int)) (row : List Rat) : zipL (rays.map D.ray) (row.map D.rat) = (rays.zip row).map fun u => .tup [D.ray u.1, D.rat u.2] := by
  unfold zipL
  rw [List.zip_map, List.map_map]
  rfl
/-- the right value, its parts -/
structure Val (k : Nat) (rays : List (List Int)) (ptss : List (List (List Rat))) : Prop where
  K : Kin k rays
  hp : ∀ pts ∈ ptss, PtsOk k pts
  h0 : ptss ≠ []
  hl : ptss.length ≤ 3
def valD (rays : List (List Int)) (ptss : List (List (List Rat))) : D := vLots (.tup (rays.map D.ray)) (rowsD (ptss.map (rowOf rays)))
section
variable {k : Nat} {rays : List (List Int)} {ptss : List (List (List Rat))}
theorem Val.formed (V : Val k rays ptss) (w : Pn) : is_formedF [valD rays ptss] w = some (.ok (.bl true) w) := formed_ok V.K V.hp V.h0 V.hl w
theorem Val.need (V : Val k rays ptss) (w : Pn) {i : Nat} (hi : i < ptss.length) : need_lotsF [valD rays ptss, .int (i : Int)] w = some (.ok .non w) := need_ok (V.formed w) (by rw [List.length_map, List.length_map]; exact hi)
theorem Val.len (V : Val k rays ptss) : ∃ r0, idxF (.tup (rays.map D.ray)) (.int 0) = some (D.ray r0) ∧ buF .len [D.ray r0] = some (.int (k : Int)) := by
  obtain ⟨r0, e0, hk⟩ := V.K.r0
  have h7 := V.K.n7
  refine ⟨r0, at_nat (i := 0) e0 (by rw [List.length_map]; omega), ?_⟩
  show some (D.int ((r0.map D.int).length : Nat)) = _
  rw [List.length_map, hk]
theorem Val.row (V : Val k rays ptss) {i : Nat} {pts : List (List Rat)} (hi : ptss[i]? = some pts) : idxF (rowsD (ptss.map (rowOf rays))) (.int (i : Int)) = some (.tup ((rowOf rays pts).map D.rat)) :=
  at_tup (by rw [List.getElem?_map, List.getElem?_map, hi]; rfl) (by rw [List.length_map, List.length_map]; have := V.hl; omega)
theorem rowOf_len (pts : List (List Rat)) : (rowOf rays pts).length = rays.length := List.length_map _
/-- the point is no point -/
theorem is_in_far (V : Val k rays ptss) {P : D} {w : Pn} {i : Nat} (hi : i < ptss.length) (ha : are_fractionsF [P, .int (k : Int)] w = some (.ok (.bl false) w)) : is_inF [valD rays ptss, .int (i : Int), P] w = some (.ex 1 (.str "point") w) := by
  obtain ⟨r0, e0, el⟩ := V.len
  refine fn_ex rfl ?_
  unfold is_inB
  refine (sc_nx (exp_ok (call_ok (ds := [valD rays ptss, .int (i : Int)]) rfl (V.need w hi)))).trans ?_
  have x0 : xidx (xfld (xvar 0) 1 2) (xcst (.int 0)) (startE 6 [valD rays ptss, .int (i : Int), P]) w = some (.ok (D.ray r0) w) := idx_ok (u := .tup (rays.map D.ray)) rfl rfl e0
  exact sc_ex (exp_ex (call_ok (args_c (call_ok (args_c (d := P) rfl (args_1 (bui_ok (args_1 x0) el))) ha) (args_1 rfl)) (need_value_f _ w)))
theorem is_in_eq (V : Val k rays ptss) {P : D} {p : List Rat} {n : Nat} (w : Pn) {i : Nat} {pts : List (List Rat)} (hi : ptss[i]? = some pts) (hp : PtOk k n p) (hn : n ≤ 1000) (ha : are_fractionsF [P, .int (k : Int)] w = some (.ok (.bl true) w))
    (hw : ∀ r ∈ rays, worth_byF [D.ray r, P] w = some (.ok (D.rat (dot r p)) w)) : is_inF [valD rays ptss, .int (i : Int), P] w = some (.ok (.bl (inB rays (rowOf rays pts) p)) w) := by
  obtain ⟨r0, e0, el⟩ := V.len
  have hlt : i < ptss.length := (List.getElem?_eq_some_iff.mp hi).1
  have hps := V.hp pts (List.mem_of_getElem? hi)
  refine fn_rt rfl ?_
  unfold is_inB
  refine (sc_nx (exp_ok (call_ok (ds := [valD rays ptss, .int (i : Int)]) rfl (V.need w hlt)))).trans ?_
  have x0 : xidx (xfld (xvar 0) 1 2) (xcst (.int 0)) (startE 6 [valD rays ptss, .int (i : Int), P]) w = some (.ok (D.ray r0) w) := idx_ok (u := .tup (rays.map D.ray)) rfl rfl e0
  refine (sc_nx (exp_ok (call_ok (args_c (call_ok (args_c (d := P) rfl (args_1 (bui_ok (args_1 x0) el))) ha) (args_1 rfl)) (need_value_t _ w)))).trans ?_
  have ez : srcZip (xfld (xvar 0) 1 2) (xidx (xfld (xvar 0) 1 3) (xvar 1)) (startE 6 [valD rays ptss, .int (i : Int), P]) w = some (.ok ((rays.zip (rowOf rays pts)).map fun u => .tup [D.ray u.1, D.rat u.2]) w) := by
    have xr : xidx (xfld (xvar 0) 1 3) (xvar 1) (startE 6 [valD rays ptss, .int (i : Int), P]) w = some (.ok (.tup ((rowOf rays pts).map D.rat)) w) := idx_ok (u := rowsD (ptss.map (rowOf rays))) rfl rfl (V.row hi)
    have xl : xfld (xvar 0) 1 2 (startE 6 [valD rays ptss, .int (i : Int), P]) w = some (.ok (.tup (rays.map D.ray)) w) := rfl
    unfold srcZip
    rw [xl, bnd_ok, xr, bnd_ok]
    show opt (some (zipL (rays.map D.ray) ((rowOf rays pts).map D.rat))) w = _
    rw [zip_map]; rfl
  have lp := in_loop (A := some (.val (valD rays ptss))) (B := some (.val (.int (i : Int)))) (P := P) (p := p) (m := 2 * n + 9) (n := 19) w (by omega) (rays.zip (rowOf rays pts)) none none none (fun u hu => by
    have h1 := List.of_mem_zip (a := u.1) (b := u.2) hu
    exact ⟨hw u.1 h1.1, bd_dot V.K.k12 (V.K.rok _ h1.1) hp, great_bd V.K hps _ h1.2⟩)
  rw [← zipB_inB (rowOf_len pts)]
  cases c : zipB (rays.zip (rowOf rays pts)) p with
  | true =>
    obtain ⟨σ, e⟩ := lp.1 c
    exact (sc_nx (for_of ez e)).trans (sc_rt rfl)
  | false => exact sc_rt (for_of ez (lp.2 c))
theorem pt_frac {n : Nat} {p : List Rat} (w : Pn) (hp : PtOk k n p) (h : k = 1 ∨ k = 2) : are_fractionsF [D.pt p, .int (k : Int)] w = some (.ok (.bl true) w) := by
  have e := are_fractions_rat p w (by rw [hp.len]; omega)
  rw [hp.len] at e; exact e
theorem ptl_frac {n : Nat} {p : List Rat} (w : Pn) (hp : PtOk k n p) (h : k = 1 ∨ k = 2) : are_fractionsF [D.ptl p, .int (k : Int)] w = some (.ok (.bl true) w) := by
  have e := frac_lst (l := p) (g := D.rat) (f := fun _ => true) w (by rw [hp.len]; omega) fun q _ => is_fraction_rat q w
  rw [List.all_eq_true.mpr (fun _ _ => rfl), hp.len] at e
  exact e
theorem is_in_pt (V : Val k rays ptss) {p : List Rat} {n : Nat} (w : Pn) {i : Nat} {pts : List (List Rat)} (hi : ptss[i]? = some pts) (hp : PtOk k n p) (hn : n ≤ 1000) : is_inF [valD rays ptss, .int (i : Int), D.pt p] w = some (.ok (.bl (inB rays (rowOf rays pts) p)) w) :=
  is_in_eq V w hi hp hn (pt_frac w hp V.K.k12) fun r hr => worth_by_eq V.K.k12 w (V.K.rok r hr) hp (by omega)
theorem is_in_ptl (V : Val k rays ptss) {p : List Rat} {n : Nat} (w : Pn) {i : Nat} {pts : List (List Rat)} (hi : ptss[i]? = some pts) (hp : PtOk k n p) (hn : n ≤ 1000) : is_inF [valD rays ptss, .int (i : Int), D.ptl p] w = some (.ok (.bl (inB rays (rowOf rays pts) p)) w) :=
  is_in_eq V w hi hp hn (ptl_frac w hp V.K.k12) fun r hr => worth_by_l V.K.k12 w (V.K.rok r hr) hp (by omega)
/-! ### corners -/
def cornP (r s : List Int) (p q : Rat) : List Rat := match r, s with
  | [a, b], [c, d] => [(p * (d : Rat) + q * ((-b : Int) : Rat)) / (((a * d - b * c).toNat : Nat) : Rat), (p * ((-c : Int) : Rat) + q * (a : Rat)) / (((a * d - b * c).toNat : Nat) : Rat)]
  | _, _ => []
def cor2 (rays : List (List Int)) (pts : List (List Rat)) (j : Nat) : List Rat := cornP (nth rays j) (nth rays (j + 1)) (great (nth rays j) pts) (great (nth rays (j + 1)) pts)
def csOf (k : Nat) (rays : List (List Int)) (pts : List (List Rat)) : List (List Rat) := if k = 1 then [[-(great [-1] pts)], [great [1] pts]] else (List.range rays.length).map (cor2 rays pts)
theorem bd_over {n m : Nat} {x : Rat} {W : Nat} (hx : Bd n x) (hW : W ≠ 0) (sW : Sz m (W : Int)) : Bd (n + m) (x / (W : Rat)) := by
  rw [← over_eq]
  refine bd_div (Nat.mul_ne_zero x.den_nz hW) (hx.num.mono (Nat.le_add_right _ _)) ?_
  have := hx.den.mul sW
  rwa [← Int.natCast_mul] at this
theorem cor2_ok {pts : List (List Rat)} (F : Fam rays) (hp : PtsOk 2 pts) (j : Nat) : PtOk 2 56 (cor2 rays pts j) ∧ inB rays (rowOf rays pts) (cor2 rays pts j) = true := by
  have h0 : 0 < rays.length := by have := F.n3; omega
  have t := F.tn' j
  have bt : ∀ t ∈ rays, ¬ (0 < turnI t (nth rays (j + 1)) ∧ 0 < turnI (nth rays j) t) := fun t ht => by
    have := F.bt (j % rays.length) (Nat.mod_lt _ h0) t ht
    rwa [nth_mod, nth_mod1] at this
  obtain ⟨a, b, e1, ha, hb, _⟩ := rayB_ok (F.ray _ (nth_mem (i := j) h0))
  obtain ⟨c, d, e2, hc, hd, _⟩ := rayB_ok (F.ray _ (nth_mem (i := j + 1) h0))
  rw [e1, e2] at t bt
  have K : Kin 2 rays := .two F
  have g1 : Bd 19 (great [a, b] pts) := great_bd K hp _ (List.mem_map.mpr ⟨[a, b], by rw [← e1]; exact nth_mem h0, rfl⟩)
  have g2 : Bd 19 (great [c, d] pts) := great_bd K hp _ (List.mem_map.mpr ⟨[c, d], by rw [← e2]; exact nth_mem h0, rfl⟩)
  unfold cor2
  rw [e1, e2]
  have t' : 0 < a * d - b * c := t
  have hW : (a * d - b * c).toNat ≠ 0 := by omega
  have eW : a * d - b * c = (((a * d - b * c).toNat : Nat) : Int) := by omega
  have sW : Sz 9 (((a * d - b * c).toNat : Nat) : Int) := by rw [← eW]; exact sz_turn ha hb hc hd
  refine ⟨⟨rfl, fun x hx => ?_⟩, ?_⟩
  · have b1 := (bd_over (bd_add (bd_mul g1 hd) (bd_mul g2 hb.neg)) hW sW)
    have b2 := (bd_over (bd_add (bd_mul g1 hc.neg) (bd_mul g2 ha)) hW sW)
    rcases List.mem_cons.mp hx with z | z
    · rw [z]; exact b1.mono (by decide)
    · rw [List.mem_singleton.mp z]; exact b2.mono (by decide)
  · rw [← zipB_inB (rowOf_len pts)]
    unfold zipB
    rw [List.all_eq_true]
    rintro ⟨r, q⟩ hm
    have hr := (List.of_mem_zip hm).1
    have hq : q = great r pts := by
      obtain ⟨i, hi, e⟩ := List.getElem_of_mem hm
      rw [List.length_zip] at hi
      have e' : (rays.zip (rowOf rays pts))[i]'(by rw [List.length_zip]; omega) = (rays[i]'(by omega), (rowOf rays pts)[i]'(by omega)) := List.getElem_zip
      rw [e'] at e
      cases e
      unfold rowOf
      rw [List.getElem_map]
    subst hq
    obtain ⟨e, f, rfl, _⟩ := rayB_ok (F.ray r hr)
    have cl := corner_le (n := 5) (a := a) (b := b) (c := c) (d := d) (e := e) (f := f) (W := (a * d - b * c).toNat) hp.ok hp.ne eW hW (bt _ hr)
    exact decide_eq_true cl
theorem cs_ok {pts : List (List Rat)} (K : Kin k rays) (hp : PtsOk k pts) : ∀ c ∈ csOf k rays pts, PtOk k 56 c ∧ inB rays (rowOf rays pts) c = true := by
  have hb := great_bd K hp
  cases K with
  | one =>
    have b1 : Bd 19 (great [-1] pts) := hb _ (List.mem_map.mpr ⟨[-1], by simp [one2], rfl⟩)
    have b2 : Bd 19 (great [1] pts) := hb _ (List.mem_map.mpr ⟨[1], by simp [one2], rfl⟩)
    have ge : (0 : Rat) ≤ great [-1] pts + great [1] pts := by
      obtain ⟨p, hpm⟩ := List.exists_mem_of_ne_nil _ hp.ne
      obtain ⟨x, rfl⟩ := one_len (hp.ok p hpm).len
      have g1 := great_ge (r := [-1]) hpm
      have g2 := great_ge (r := [1]) hpm
      rw [dot_1] at g1 g2
      have i1 : ((-1 : Int) : Rat) = -1 := by decide
      have i2 : ((1 : Int) : Rat) = 1 := by decide
      rw [i1] at g1
      rw [i2] at g2
      grind
    have i1 : ((-1 : Int) : Rat) = -1 := by decide
    have i2 : ((1 : Int) : Rat) = 1 := by decide
    have hin : ∀ x : Rat, -x ≤ great [-1] pts → x ≤ great [1] pts → inB one2 (rowOf one2 pts) [x] = true := fun x h1 h2 => by
      have d1 : dot [-1] [x] ≤ great [-1] pts := by rw [dot_1, i1]; grind
      have d2 : dot [1] [x] ≤ great [1] pts := by rw [dot_1, i2]; grind
      show (decide (dot [-1] [x] ≤ great [-1] pts) && (decide (dot [1] [x] ≤ great [1] pts) && true)) = true
      rw [decide_eq_true d1, decide_eq_true d2]; rfl
    intro c hc
    unfold csOf at hc
    rw [if_pos rfl] at hc
    rcases List.mem_cons.mp hc with z | z
    · subst z
      refine ⟨⟨rfl, fun x hx => ?_⟩, hin _ (by grind) (by grind)⟩
      rw [List.mem_singleton.mp hx]
      refine ⟨?_, ?_⟩
      · rw [Rat.neg_num]; exact (b1.num.neg).mono (by decide)
      · rw [Rat.neg_den]; exact b1.den.mono (by decide)
    · rw [List.mem_singleton.mp z]
      refine ⟨⟨rfl, fun x hx => ?_⟩, hin _ (by grind) (by grind)⟩
      rw [List.mem_singleton.mp hx]
      exact b2.mono (by decide)
  | two F =>
    intro c hc
    unfold csOf at hc
    rw [if_neg (by decide)] at hc
    obtain ⟨j, _, rfl⟩ := List.mem_map.mp hc
    exact cor2_ok F hp j
theorem cs_len {pts : List (List Rat)} (K : Kin k rays) : (csOf k rays pts).length = rays.length := by
  cases K with
  | one => rfl
  | two F => unfold csOf; rw [if_neg (by decide), List.length_map, List.length_range]
end
end Rh
set_option Elab.async false
set_option linter.all false
set_option maxRecDepth 100000
set_option maxHeartbeats 4000000
/-! Rh: corners, widths, middle of the program. -/
namespace Rh
open PySem L2
section
variable {k : Nat} {rays : List (List Int)} {ptss : List (List (List Rat))}
theorem rat_neg1 (q : Rat) : q * ((-1 : Int) : Rat) = -q := by
  have i1 : ((-1 : Int) : Rat) = -1 := by decide
  rw [i1]; grind
theorem rth_get {pts : List (List Rat)} (h0 : 0 < rays.length) (i : Nat) : (rowOf rays pts)[i % rays.length]? = some (great (nth rays i) pts) := by
  unfold rowOf
  rw [List.getElem?_map, nth_get h0]; rfl
theorem corner_two {pts : List (List Rat)} {j : Nat} (F : Fam rays) (hp : PtsOk 2 pts) (hj : j < rays.length) (w : Pn) : corner_atF [.tup (rays.map D.ray), .tup ((rowOf rays pts).map D.rat), .int (j : Int)] w = some (.ok (D.pt (cor2 rays pts j)) w) ∧ law_cornerF [.tup (rays.map D.ray), .tup ((rowOf rays pts).map D.rat), .int (j : Int)] w = some (.ok (D.pt (cor2 rays pts j)) w) := by
  have h0 : 0 < rays.length := by have := F.n3; omega
  have h7 := F.n7
  have t := F.tn' j
  have q0 := rth_get (pts := pts) h0 j
  have q1 := rth_get (pts := pts) h0 (j + 1)
  have r0 := nth_get (i := j) h0
  have r1 := nth_get (i := j + 1) h0
  rw [Nat.mod_eq_of_lt hj] at q0 r0
  have K : Kin 2 rays := .two F
  have g1 : Bd 19 (great (nth rays j) pts) := great_bd K hp _ (List.mem_map.mpr ⟨_, nth_mem h0, rfl⟩)
  have g2 : Bd 19 (great (nth rays (j + 1)) pts) := great_bd K hp _ (List.mem_map.mpr ⟨_, nth_mem h0, rfl⟩)
  obtain ⟨a, b, e1, ha, hb, _⟩ := rayB_ok (F.ray _ (nth_mem (i := j) h0))
  obtain ⟨c, d, e2, hc, hd, _⟩ := rayB_ok (F.ray _ (nth_mem (i := j + 1) h0))
  rw [e1, e2] at t
  have t' : 0 < a * d - b * c := t
  have eW : a * d - b * c = (((a * d - b * c).toNat : Nat) : Int) := by omega
  have ed : D.pt (cor2 rays pts j) = .tup [D.rat ((great (nth rays j) pts * (d : Rat) + great (nth rays (j + 1)) pts * ((-b : Int) : Rat)) / (((a * d - b * c).toNat : Nat) : Rat)), D.rat ((great (nth rays j) pts * ((-c : Int) : Rat) + great (nth rays (j + 1)) pts * (a : Rat)) / (((a * d - b * c).toNat : Nat) : Rat))] := by
    unfold cor2
    rw [e1, e2]
    rfl
  rw [ed]
  exact ⟨corner_at_eq w hj (by omega) (rowOf_len pts) (by rw [r0, e1]) (by rw [r1, e2]) q0 q1 eW (by omega) ha hb hc hd g1 g2 (by decide), law_corner_eq w hj (by omega) (rowOf_len pts) (by rw [r0, e1]) (by rw [r1, e2]) q0 q1 eW (by omega) ha hb hc hd g1 g2 (by decide)⟩
theorem rng_of {a : XF} {σ : En} {w : Pn} {m : Nat} (h : a σ w = some (.ok (.int (m : Int)) w)) (hm : m ≤ 1000) : srcRng1 a σ w = some (.ok ((List.range m).map fun (i : Nat) => D.int (i : Int)) w) := rng_eq h hm
theorem corners_eq (V : Val k rays ptss) {i : Nat} {pts : List (List Rat)} (w : Pn) (hi : ptss[i]? = some pts) : cornersF [valD rays ptss, .int (i : Int)] w = some (.ok (.tup ((csOf k rays pts).map D.pt)) w) := by
  have hlt : i < ptss.length := (List.getElem?_eq_some_iff.mp hi).1
  have hps := V.hp pts (List.mem_of_getElem? hi)
  obtain ⟨r0, e0, el⟩ := V.len
  refine fn_rt rfl ?_
  unfold cornersB
  refine (sc_nx (exp_ok (call_ok (ds := [valD rays ptss, .int (i : Int)]) rfl (V.need w hlt)))).trans ?_
  have xr : xidx (xfld (xvar 0) 1 3) (xvar 1) (startE 5 [valD rays ptss, .int (i : Int)]) w = some (.ok (.tup ((rowOf rays pts).map D.rat)) w) := idx_ok (u := rowsD (ptss.map (rowOf rays))) rfl rfl (V.row hi)
  have st : setT (startE 5 [valD rays ptss, .int (i : Int)]) (.tp [2, 3]) (.tup [.tup (rays.map D.ray), .tup ((rowOf rays pts).map D.rat)]) = some [some (.val (valD rays ptss)), some (.val (.int (i : Int))), some (.val (.tup (rays.map D.ray))), some (.val (.tup ((rowOf rays pts).map D.rat))), none] := rfl
  refine (sc_nx (asg_ok (tup_ok (args_c (d := .tup (rays.map D.ray)) rfl (args_1 xr)) small2) st)).trans ?_
  have xl : xbui .len (acons (xidx (xvar 2) (xcst (.int 0))) anil) [some (.val (valD rays ptss)), some (.val (.int (i : Int))), some (.val (.tup (rays.map D.ray))), some (.val (.tup ((rowOf rays pts).map D.rat))), none] w = some (.ok (.int (k : Int)) w) := bui_ok (args_1 (idx_ok (u := .tup (rays.map D.ray)) rfl rfl e0)) el
  have hb := great_bd V.K hps
  have K := V.K
  clear st xr
  cases hK : K with
  | one =>
    have c : xtru (xcmp .eq (xbui .len (acons (xidx (xvar 2) (xcst (.int 0))) anil)) (xcst (.int 1))) [some (.val (valD one2 ptss)), some (.val (.int (i : Int))), some (.val (.tup (one2.map D.ray))), some (.val (.tup ((rowOf one2 pts).map D.rat))), none] w = some (.ok true w) := tru_ok (cmp_ok xl rfl rfl)
    refine sc_rt ((if_yes (a := scons _ snil) (b := snil) c).trans (sc_rt (ret_ok ?_)))
    have b1 : Bd 19 (great [-1] pts) := hb _ (List.mem_map.mpr ⟨[-1], by simp [one2], rfl⟩)
    have s1 : Sz 1 (-1 : Int) := by show (1 : Nat) < 2 ^ 1; decide
    have t := times_eq w b1 s1 (by decide)
    rw [rat_neg1] at t
    have x0 : xcall timesF (acons (xidx (xvar 3) (xcst (.int 0))) (acons (xneg (xcst (.int 1))) anil)) [some (.val (valD one2 ptss)), some (.val (.int (i : Int))), some (.val (.tup (one2.map D.ray))), some (.val (.tup ((rowOf one2 pts).map D.rat))), none] w = some (.ok (D.rat (-(great [-1] pts))) w) := call_ok (ds := [D.rat (great [-1] pts), .int (-1)]) rfl t
    have x1 : xidx (xvar 3) (xcst (.int 1)) [some (.val (valD one2 ptss)), some (.val (.int (i : Int))), some (.val (.tup (one2.map D.ray))), some (.val (.tup ((rowOf one2 pts).map D.rat))), none] w = some (.ok (D.rat (great [1] pts)) w) := rfl
    exact tup_ok (args_c (tup_ok (args_1 x0) small1) (args_1 (tup_ok (args_1 x1) small1))) small2
  | two F =>
    have c : xtru (xcmp .eq (xbui .len (acons (xidx (xvar 2) (xcst (.int 0))) anil)) (xcst (.int 1))) [some (.val (valD rays ptss)), some (.val (.int (i : Int))), some (.val (.tup (rays.map D.ray))), some (.val (.tup ((rowOf rays pts).map D.rat))), none] w = some (.ok false w) := tru_ok (cmp_ok xl rfl rfl)
    refine (sc_nx (if_no (a := scons _ snil) (b := snil) c)).trans ?_
    have h3 := F.n3
    have h7 := F.n7
    have nb := neighbours_eq (rays := rays) w (by omega) (by omega)
    have xn : xbui .len (acons (xcall neighboursF (acons (xvar 2) anil)) anil) [some (.val (valD rays ptss)), some (.val (.int (i : Int))), some (.val (.tup (rays.map D.ray))), some (.val (.tup ((rowOf rays pts).map D.rat))), none] w = some (.ok (.int (rays.length : Int)) w) := bui_ok (args_1 (call_ok (ds := [.tup (rays.map D.ray)]) rfl nb)) (by rw [bu_lenL, neighbours_len])
    have cm : xcomp [4] (.nm 4) (srcRng1 (xbui .len (acons (xcall neighboursF (acons (xvar 2) anil)) anil))) tyes (xcall corner_atF (acons (xvar 2) (acons (xvar 3) (acons (xvar 4) anil)))) [some (.val (valD rays ptss)), some (.val (.int (i : Int))), some (.val (.tup (rays.map D.ray))), some (.val (.tup ((rowOf rays pts).map D.rat))), none] w = some (.ok (.lst ((List.range rays.length).map fun j => D.pt (cor2 rays pts j))) w) :=
      comp_of (List.range rays.length) (fun j => .int (j : Int)) _ (rng_of xn (by omega)) (fun j hj => ⟨[some (.val (valD rays ptss)), some (.val (.int (i : Int))), some (.val (.tup (rays.map D.ray))), some (.val (.tup ((rowOf rays pts).map D.rat))), some (.val (.int (j : Int)))], rfl, call_ok (ds := [.tup (rays.map D.ray), .tup ((rowOf rays pts).map D.rat), .int (j : Int)]) rfl (corner_two F hps (List.mem_range.mp hj) w).1⟩) (by rw [List.length_range]; omega)
    have ecs : (csOf 2 rays pts).map D.pt = (List.range rays.length).map fun j => D.pt (cor2 rays pts j) := by
      unfold csOf
      rw [if_neg (by decide), List.map_map]; rfl
    rw [ecs]
    exact sc_rt (ret_ok (bui_ok (args_1 cm) (bu_tupL _)))
end
/-! ### least, greatest, sums -/
def lowS (m x : Rat) : Rat := if x ≤ m then x else m
def higS (m x : Rat) : Rat := if m ≤ x then x else m
def lowR : List Rat → Rat
  | [] => 0
  | q :: qs => qs.foldl lowS q
def higR : List Rat → Rat
  | [] => 0
  | q :: qs => qs.foldl higS q
def at_ (s : Nat) (c : List Rat) : Rat := c.getD s 0
def sumL (l : List Rat) : Rat := l.foldl (· + ·) 0
theorem min_over {B : Nat} (hB : 0 < B) : ∀ (qs : List Rat) (q : Rat) (t : Int), (∀ x ∈ qs, x.den ∣ B) → (t : Rat) = q * (B : Rat) → (((qs.map fun q => q.num * ((B : Int) / (q.den : Int))).foldl (fun m x => if x < m then x else m) t : Int) : Rat) = qs.foldl lowS q * (B : Rat)
  | [], q, t, _, h => h
  | x :: qs, q, t, hd, h => by
    have hx := over_rat (hd x List.mem_cons_self)
    have hB' : (0 : Rat) < (B : Rat) := by exact_mod_cast hB
    rw [List.map_cons, List.foldl_cons, List.foldl_cons]
    generalize x.num * ((B : Int) / (x.den : Int)) = tx at *
    have key : ((if tx < t then tx else t : Int) : Rat) = lowS q x * (B : Rat) := by
      unfold lowS
      by_cases c : tx < t
      · have c1 : (tx : Rat) < (t : Rat) := by exact_mod_cast c
        have c2 : x ≤ q := by
          rw [hx, h] at c1
          exact Rat.le_of_lt (Rat.lt_of_mul_lt_mul_right c1 (Rat.le_of_lt hB'))
        rw [if_pos c, if_pos c2]; exact hx
      · have c1 : (t : Rat) ≤ (tx : Rat) := by
          have : t ≤ tx := by omega
          exact_mod_cast this
        rw [if_neg c]
        have c2 : q ≤ x := by
          rw [hx, h] at c1
          exact Rat.le_of_mul_le_mul_right c1 hB'
        by_cases c3 : x ≤ q
        · have : x = q := Rat.le_antisymm c3 c2
          rw [if_pos c3, this]; exact h
        · rw [if_neg c3]; exact h
    exact min_over hB qs (lowS q x) _ (fun y hy => hd y (List.mem_cons_of_mem _ hy)) key
theorem max_over {B : Nat} (hB : 0 < B) : ∀ (qs : List Rat) (q : Rat) (t : Int), (∀ x ∈ qs, x.den ∣ B) → (t : Rat) = q * (B : Rat) → (((qs.map fun q => q.num * ((B : Int) / (q.den : Int))).foldl (fun m x => if m < x then x else m) t : Int) : Rat) = qs.foldl higS q * (B : Rat)
  | [], q, t, _, h => h
  | x :: qs, q, t, hd, h => by
    have hx := over_rat (hd x List.mem_cons_self)
    have hB' : (0 : Rat) < (B : Rat) := by exact_mod_cast hB
    rw [List.map_cons, List.foldl_cons, List.foldl_cons]
    generalize x.num * ((B : Int) / (x.den : Int)) = tx at *
    have key : ((if t < tx then tx else t : Int) : Rat) = higS q x * (B : Rat) := by
      unfold higS
      by_cases c : t < tx
      · have c1 : (t : Rat) < (tx : Rat) := by exact_mod_cast c
        have c2 : q ≤ x := by
          rw [hx, h] at c1
          exact Rat.le_of_lt (Rat.lt_of_mul_lt_mul_right c1 (Rat.le_of_lt hB'))
        rw [if_pos c, if_pos c2]; exact hx
      · have c1 : (tx : Rat) ≤ (t : Rat) := by
          have : tx ≤ t := by omega
          exact_mod_cast this
        rw [if_neg c]
        have c2 : x ≤ q := by
          rw [hx, h] at c1
          exact Rat.le_of_mul_le_mul_right c1 hB'
        by_cases c3 : q ≤ x
        · have : x = q := Rat.le_antisymm c2 c3
          rw [if_pos c3, this]; exact h
        · rw [if_neg c3]; exact h
    exact max_over hB qs (higS q x) _ (fun y hy => hd y (List.mem_cons_of_mem _ hy)) key
theorem intsOf_map : ∀ ns : List Int, Rh.intsOf (ns.map D.int) = some ns
  | [] => rfl
  | n :: r => by rw [List.map_cons]; unfold Rh.intsOf; rw [intsOf_map r]; rfl
theorem over_B {m : Int} {q : Rat} {B : Nat} (hB : 0 < B) (h : (m : Rat) = q * (B : Rat)) : (m : Rat) / (B : Rat) = q := by
  have hB' : (B : Rat) ≠ 0 := fun z => by
    have : (0 : Rat) < (B : Rat) := by exact_mod_cast hB
    rw [z] at this; exact absurd this (by decide)
  rw [h, Rat.mul_div_cancel hB']
/-- min, max of tops over their bottom -/
theorem min_top {qs : List Rat} {n : Nat} (w : Pn) (h : qs ≠ []) (hn : n ≤ 8000) (sB : Sz n (botOf qs : Int)) : ∃ m M : Int, buF .min [.lst ((topsOf (botOf qs) qs).map .int)] = some (.int m) ∧ buF .max [.lst ((topsOf (botOf qs) qs).map .int)] = some (.int M) ∧
    lowest_ofF [.int m, .int (botOf qs : Int)] w = some (.ok (D.rat (lowR qs)) w) ∧ lowest_ofF [.int M, .int (botOf qs : Int)] w = some (.ok (D.rat (higR qs)) w) := by
  have hB := bot_pos qs
  have hd : ∀ q ∈ qs, q.den ∣ botOf qs := fun q hq => bot_dvd hq
  generalize botOf qs = B at *
  cases qs with
  | nil => exact absurd rfl h
  | cons q qs =>
    have h0 := over_rat (hd q List.mem_cons_self)
    have e1 := min_over hB qs q _ (fun x hx => hd x (List.mem_cons_of_mem _ hx)) h0
    have e2 := max_over hB qs q _ (fun x hx => hd x (List.mem_cons_of_mem _ hx)) h0
    refine ⟨(qs.map fun q => q.num * ((B : Int) / (q.den : Int))).foldl (fun m x => if x < m then x else m) (q.num * ((B : Int) / (q.den : Int))), (qs.map fun q => q.num * ((B : Int) / (q.den : Int))).foldl (fun m x => if m < x then x else m) (q.num * ((B : Int) / (q.den : Int))), ?_, ?_, ?_, ?_⟩
    · show (Rh.intsOf ((topsOf B (q :: qs)).map D.int)).bind (fun ns => (minL ns).map D.int) = _
      rw [intsOf_map]; rfl
    · show (Rh.intsOf ((topsOf B (q :: qs)).map D.int)).bind (fun ns => (maxL ns).map D.int) = _
      rw [intsOf_map]; rfl
    · have := lowest_eq (a := (qs.map fun q => q.num * ((B : Int) / (q.den : Int))).foldl (fun m x => if x < m then x else m) (q.num * ((B : Int) / (q.den : Int)))) w (show B ≠ 0 by omega) sB hn
      rw [over_B hB e1] at this
      exact this
    · have := lowest_eq (a := (qs.map fun q => q.num * ((B : Int) / (q.den : Int))).foldl (fun m x => if m < x then x else m) (q.num * ((B : Int) / (q.den : Int)))) w (show B ≠ 0 by omega) sB hn
      rw [over_B hB e2] at this
      exact this
end Rh
set_option Elab.async false
set_option linter.all false
set_option maxRecDepth 100000
set_option maxHeartbeats 4000000
/-! Rh: widths, middle. -/
namespace Rh
open PySem L2
theorem at_pt {k n s : Nat} {c : List Rat} (h : PtOk k n c) (hs : s < k) (hk : k ≤ 2) : idxF (D.pt c) (.int (s : Int)) = some (D.rat (at_ s c)) ∧ Bd n (at_ s c) := by
  have hlt : s < c.length := by rw [h.len]; exact hs
  have e : c[s]? = some c[s] := List.getElem?_eq_getElem hlt
  have ea : at_ s c = c[s] := by unfold at_; rw [List.getD_eq_getElem?_getD, e]; rfl
  refine ⟨at_tup (by rw [List.getElem?_map, e, ea]; rfl) (by rw [List.length_map, h.len]; omega), ?_⟩
  rw [ea]; exact h.bd _ (List.getElem_mem _)
/-- corners' list: what is known -/
structure Cs (k : Nat) (cs : List (List Rat)) : Prop where
  k12 : k = 1 ∨ k = 2
  ne : cs ≠ []
  len : cs.length ≤ 7
  ok : ∀ c ∈ cs, PtOk k 56 c
section
variable {k : Nat} {cs : List (List Rat)}
theorem Cs.k2 (C : Cs k cs) : k ≤ 2 := by rcases C.k12 with h | h <;> omega
theorem Cs.own_ne (C : Cs k cs) (s : Nat) : cs.map (at_ s) ≠ [] := fun z => C.ne (List.map_eq_nil_iff.mp z)
theorem Cs.bd (C : Cs k cs) {s : Nat} (hs : s < k) : ∀ q ∈ cs.map (at_ s), Bd 56 q := fun q hq => by
  obtain ⟨c, hc, rfl⟩ := List.mem_map.mp hq
  exact (at_pt (C.ok c hc) hs C.k2).2
theorem sum_bd : ∀ (l : List Rat) (t : Rat) (m : Nat), (∀ q ∈ l, Bd 56 q) → Bd m t → Bd (m + 57 * l.length) (l.foldl (· + ·) t)
  | [], t, m, _, h => h
  | q :: l, t, m, hl, h => by
    have := sum_bd l (t + q) (m + 57) (fun x hx => hl x (List.mem_cons_of_mem _ hx)) (bd_add h (hl q List.mem_cons_self))
    rw [List.foldl_cons]
    exact this.mono (by rw [List.length_cons]; omega)
theorem Cs.sum (C : Cs k cs) {s : Nat} (hs : s < k) : Bd 400 (sumL (cs.map (at_ s))) :=
  (sum_bd (cs.map (at_ s)) 0 1 (C.bd hs) bd_zero).mono (by rw [List.length_map]; have := C.len; omega)
def mean (cs : List (List Rat)) (s : Nat) : Rat := sumL (cs.map (at_ s)) / ((cs.length : Nat) : Rat)
theorem Cs.lenS (C : Cs k cs) : Sz 3 ((cs.length : Nat) : Int) ∧ cs.length ≠ 0 := by
  have := C.len
  refine ⟨?_, fun z => C.ne (List.length_eq_zero_iff.mp z)⟩
  show (cs.length : Int).natAbs < 2 ^ 3
  rw [Int.natAbs_natCast]; omega
theorem Cs.meanB (C : Cs k cs) {s : Nat} (hs : s < k) : Bd 403 (mean cs s) := bd_over (C.sum hs) C.lenS.2 C.lenS.1
theorem fold_in (f : Rat → Rat → Rat) (hf : ∀ m x, f m x = m ∨ f m x = x) : ∀ (l : List Rat) (m : Rat), l.foldl f m = m ∨ l.foldl f m ∈ l
  | [], m => .inl rfl
  | x :: l, m => by
    rw [List.foldl_cons]
    rcases fold_in f hf l (f m x) with h | h
    · rcases hf m x with g | g
      · rw [h, g]; exact .inl rfl
      · rw [h, g]; exact .inr List.mem_cons_self
    · exact .inr (List.mem_cons_of_mem _ h)
theorem low_in {l : List Rat} (h : l ≠ []) : lowR l ∈ l := by
  cases l with
  | nil => exact absurd rfl h
  | cons q qs =>
    rcases fold_in lowS (fun m x => by unfold lowS; split <;> simp) qs q with e | e
    · show qs.foldl lowS q ∈ _; rw [e]; exact List.mem_cons_self
    · exact List.mem_cons_of_mem _ e
theorem hig_in {l : List Rat} (h : l ≠ []) : higR l ∈ l := by
  cases l with
  | nil => exact absurd rfl h
  | cons q qs =>
    rcases fold_in higS (fun m x => by unfold higS; split <;> simp) qs q with e | e
    · show qs.foldl higS q ∈ _; rw [e]; exact List.mem_cons_self
    · exact List.mem_cons_of_mem _ e
def widD (cs : List (List Rat)) (s : Nat) : D := .tup [D.rat (lowR (cs.map (at_ s))), D.rat (higR (cs.map (at_ s)))]
/-! widths of the program -/
def wB : SF := scons (sasg (.nm 5) (xcall shared_bottomF (acons (xcomp [6] (.nm 6) (srcSeq (xvar 2)) (tyes) (xidx (xvar 6) (xvar 4))) (anil)))) (scons (sasg (.nm 7) (xcomp [6] (.nm 6) (srcSeq (xvar 2)) (tyes) (xcall over_itF (acons (xidx (xvar 6) (xvar 4)) (acons (xvar 5) (anil)))))) (scons (sapp 3 (xtup (acons (xcall lowest_ofF (acons (xbui .min (acons (xvar 7) anil)) (acons (xvar 5) (anil)))) (acons (xcall lowest_ofF (acons (xbui .max (acons (xvar 7) anil)) (acons (xvar 5) (anil)))) (anil))))) (snil)))
theorem app_ok {i : Nat} {e : XF} {σ : En} {w w1 : Pn} {l : List D} {d : D} (hm : mslot σ i = some l) (h : e σ w = some (.ok d w1)) (hl : l.length ≤ 1000) : sapp i e σ w = some (.ok (.nx (σ.set i (some (.chg (l ++ [d]))))) w1) := by
  unfold sapp
  rw [hm, opt_some, bnd_ok, h, bnd_ok, if_pos (small_le (by omega))]
theorem wB_ok (C : Cs k cs) {A B x y z : Option Sl} {acc : List D} {s : Nat} (w : Pn) (hs : s < k) (ha : acc.length ≤ 1000) :
    ∃ x' y' z', wB [A, B, some (.val (.tup (cs.map D.pt))), some (.chg acc), some (.val (.int (s : Int))), x, y, z] w = some (.ok (.nx [A, B, some (.val (.tup (cs.map D.pt))), some (.chg (acc ++ [widD cs s])), some (.val (.int (s : Int))), x', y', z']) w) := by
  have hlen := C.len
  have hc1 : ∀ x z, xcomp [6] (.nm 6) (srcSeq (xvar 2)) (tyes) (xidx (xvar 6) (xvar 4)) [A, B, some (.val (.tup (cs.map D.pt))), some (.chg acc), some (.val (.int (s : Int))), x, y, z] w = some (.ok (.lst ((cs.map (at_ s)).map D.rat)) w) := fun x z => by
    rw [List.map_map]
    exact comp_of cs D.pt _ rfl (fun c hc => ⟨[A, B, some (.val (.tup (cs.map D.pt))), some (.chg acc), some (.val (.int (s : Int))), x, some (.val (D.pt c)), z], rfl, idx_ok (u := D.pt c) rfl rfl (at_pt (C.ok c hc) hs C.k2).1⟩) (by omega)
  obtain ⟨e1, sB⟩ := shared_bottom_eq (n := 56) (qs := cs.map (at_ s)) w (C.bd hs) (by rw [List.length_map]; omega)
  rw [List.length_map] at sB
  have sB' : Sz 4000 (botOf (cs.map (at_ s)) : Int) := sB.mono (by omega)
  obtain ⟨m, M, em, eM, lm, lM⟩ := min_top (n := 4000) w (C.own_ne s) (by decide) sB'
  have hc2 : xcomp [6] (.nm 6) (srcSeq (xvar 2)) (tyes) (xcall over_itF (acons (xidx (xvar 6) (xvar 4)) (acons (xvar 5) (anil)))) [A, B, some (.val (.tup (cs.map D.pt))), some (.chg acc), some (.val (.int (s : Int))), some (.val (.int (botOf (cs.map (at_ s)) : Int))), y, z] w = some (.ok (.lst ((topsOf (botOf (cs.map (at_ s))) (cs.map (at_ s))).map .int)) w) := by
    unfold topsOf
    generalize botOf (cs.map (at_ s)) = BB at *
    rw [List.map_map, List.map_map]
    exact comp_of cs D.pt _ rfl (fun c hc => ⟨[A, B, some (.val (.tup (cs.map D.pt))), some (.chg acc), some (.val (.int (s : Int))), some (.val (.int (BB : Int))), some (.val (D.pt c)), z], rfl, call_ok (args_c (idx_ok (u := D.pt c) rfl rfl (at_pt (C.ok c hc) hs C.k2).1) (args_1 rfl)) (over_it_eq w (at_pt (C.ok c hc) hs C.k2).2 sB' (by decide) (by decide))⟩) (by omega)
  refine ⟨some (.val (.int (botOf (cs.map (at_ s)) : Int))), y, some (.val (.lst ((topsOf (botOf (cs.map (at_ s))) (cs.map (at_ s))).map .int))), ?_⟩
  · unfold wB
    refine (sc_nx (asg_ok (call_ok (args_1 (hc1 x z)) e1) rfl)).trans ?_
    refine (sc_nx (asg_ok hc2 rfl)).trans ?_
    refine (sc_nx (app_ok (l := acc) rfl (tup_ok (args_c (call_ok (args_c (bui_ok (args_1 (d := .lst ((topsOf (botOf (cs.map (at_ s))) (cs.map (at_ s))).map .int)) rfl) em) (args_1 rfl)) lm) (args_1 (call_ok (args_c (bui_ok (args_1 (d := .lst ((topsOf (botOf (cs.map (at_ s))) (cs.map (at_ s))).map .int)) rfl) eM) (args_1 rfl)) lM))) small2) ha)).trans ?_
    exact rfl
theorem wL_ok (C : Cs k cs) {A B : Option Sl} (w : Pn) : ∀ (ss : List Nat) (acc : List D) (u x y z : Option Sl), (∀ s ∈ ss, s < k) → acc.length + ss.length ≤ 1000 →
    ∃ u' x' y' z', forL (.nm 4) wB (ss.map fun (s : Nat) => D.int (s : Int)) [A, B, some (.val (.tup (cs.map D.pt))), some (.chg acc), u, x, y, z] w = some (.ok (.nx [A, B, some (.val (.tup (cs.map D.pt))), some (.chg (acc ++ ss.map (widD cs))), u', x', y', z']) w)
  | [], acc, u, x, y, z, _, _ => ⟨u, x, y, z, by rw [List.map_nil, List.map_nil, List.append_nil]; rfl⟩
  | s :: ss, acc, u, x, y, z, h, hl => by
    rw [List.length_cons] at hl
    obtain ⟨x1, y1, z1, e1⟩ := wB_ok C (A := A) (B := B) (x := x) (y := y) (z := z) (acc := acc) w (h s List.mem_cons_self) (by omega)
    obtain ⟨u', x', y', z', e2⟩ := wL_ok C (A := A) (B := B) w ss (acc ++ [widD cs s]) (some (.val (.int (s : Int)))) x1 y1 z1 (fun t ht => h t (List.mem_cons_of_mem _ ht)) (by rw [List.length_append]; simp; omega)
    refine ⟨u', x', y', z', ?_⟩
    rw [List.append_assoc] at e2
    rw [List.map_cons, forL]
    show bnd (wB [A, B, some (.val (.tup (cs.map D.pt))), some (.chg acc), some (.val (.int (s : Int))), x, y, z] w) _ = _
    rw [e1, bnd_ok]
    exact e2
theorem widths_eq {rays : List (List Int)} {ptss : List (List (List Rat))} {i : Nat} (C : Cs k cs) (w : Pn) (hc : cornersF [valD rays ptss, .int (i : Int)] w = some (.ok (.tup (cs.map D.pt)) w)) : widthsF [valD rays ptss, .int (i : Int)] w = some (.ok (.tup ((List.range k).map (widD cs))) w) := by
  have hk := C.k2
  refine fn_rt rfl ?_
  unfold widthsB
  have e1 : spar2m 2 3 (xcall cornersF (acons (xvar 0) (acons (xvar 1) (anil)))) (startE 8 [valD rays ptss, .int (i : Int)]) w = some (.ok (.nx [some (.val (valD rays ptss)), some (.val (.int (i : Int))), some (.val (.tup (cs.map D.pt))), some (.chg []), none, none, none, none]) w) := by
    unfold spar2m
    rw [call_ok (ds := [valD rays ptss, .int (i : Int)]) rfl hc]; rfl
  refine (sc_nx e1).trans ?_
  obtain ⟨c, cs', ecs⟩ := List.exists_cons_of_ne_nil C.ne
  have hl : buF .len [D.pt c] = some (.int (k : Int)) := by
    show some (D.int ((c.map D.rat).length : Nat)) = _
    rw [List.length_map, (C.ok c (by rw [ecs]; exact List.mem_cons_self)).len]
  have hx : xidx (xvar 2) (xcst (.int 0)) [some (.val (valD rays ptss)), some (.val (.int (i : Int))), some (.val (.tup (cs.map D.pt))), some (.chg []), none, none, none, none] w = some (.ok (D.pt c) w) := by
    refine idx_ok (u := .tup (cs.map D.pt)) rfl rfl ?_
    exact at_nat (i := 0) (by rw [ecs]; rfl) (by rw [List.length_map]; have := C.len; omega)
  obtain ⟨u', x', y', z', e2⟩ := wL_ok C (A := some (.val (valD rays ptss))) (B := some (.val (.int (i : Int)))) w (List.range k) [] none none none none (fun s hs => List.mem_range.mp hs) (by rw [List.length_range]; simp; omega)
  refine (sc_nx (for_of (rng_of (bui_ok (args_1 hx) hl) (by omega)) e2)).trans ?_
  exact sc_rt rfl
/-! middle of the program -/
def mB0 : SF := scons (sasg (.nm 5) (xcall plusF (acons (xvar 5) (acons (xidx (xvar 6) (xvar 4)) (anil))))) (snil)
def mB : SF := scons (sasg (.nm 5) (xtup (acons (xcst (.int 0)) (acons (xcst (.int 1)) (anil))))) (scons (sfor (.nm 6) (srcSeq (xvar 2)) mB0) (scons (sapp 3 (xcall lowest_ofF (acons (xidx (xvar 5) (xcst (.int 0))) (acons (xbin .mul (xidx (xvar 5) (xcst (.int 1))) (xbui .len (acons (xvar 2) anil))) (anil))))) (snil)))
theorem mS_ok {A B E S : Option Sl} {s : Nat} (w : Pn) (hs : s < k) (hk : k ≤ 2) : ∀ (l : List (List Rat)) (t : Rat) (m : Nat) (y : Option Sl), (∀ c ∈ l, PtOk k 56 c) → Bd m t → m + 57 * l.length ≤ 1000 →
    ∃ y', forL (.nm 6) mB0 (l.map D.pt) [A, B, E, S, some (.val (.int (s : Int))), some (.val (D.rat t)), y] w = some (.ok (.nx [A, B, E, S, some (.val (.int (s : Int))), some (.val (D.rat ((l.map (at_ s)).foldl (· + ·) t))), y']) w)
  | [], t, m, y, _, _, _ => ⟨y, rfl⟩
  | c :: l, t, m, y, h, ht, hm => by
    rw [List.length_cons] at hm
    obtain ⟨e0, hb⟩ := at_pt (h c List.mem_cons_self) hs hk
    have ep := plus_eq w ht hb (by omega)
    obtain ⟨y', e⟩ := mS_ok (A := A) (B := B) (E := E) (S := S) w hs hk l (t + at_ s c) (m + 57) (some (.val (D.pt c))) (fun d hd => h d (List.mem_cons_of_mem _ hd)) (bd_add ht hb) (by omega)
    refine ⟨y', ?_⟩
    rw [List.map_cons, List.map_cons, List.foldl_cons, forL]
    have e1 : mB0 [A, B, E, S, some (.val (.int (s : Int))), some (.val (D.rat t)), some (.val (D.pt c))] w = some (.ok (.nx [A, B, E, S, some (.val (.int (s : Int))), some (.val (D.rat (t + at_ s c))), some (.val (D.pt c))]) w) := by
      unfold mB0
      exact (sc_nx (asg_ok (call_ok (args_c rfl (args_1 (idx_ok (u := D.pt c) rfl rfl e0))) ep) rfl)).trans rfl
    show bnd (mB0 [A, B, E, S, some (.val (.int (s : Int))), some (.val (D.rat t)), some (.val (D.pt c))] w) _ = _
    rw [e1, bnd_ok]
    exact e
/-- a total over a number -/
theorem mean_low {t : Rat} {n : Nat} (w : Pn) (ht : Bd 400 t) (hn : n ≠ 0) (sn : Sz 3 (n : Int)) : boF .mul (.int (t.den : Int)) (.int (n : Int)) = some (.int ((t.den * n : Nat) : Int)) ∧ lowest_ofF [.int t.num, .int ((t.den * n : Nat) : Int)] w = some (.ok (D.rat (t / (n : Rat))) w) ∧ law_fracF [.int t.num, .int ((t.den * n : Nat) : Int)] w = some (.ok (D.rat (t / (n : Rat))) w) := by
  have m1 := mul_ok ht.den sn (by decide)
  have sz := ht.den.mul sn
  have h1 := lowest_eq (n := 403) (a := t.num) w (Nat.mul_ne_zero t.den_nz hn) (by rw [Int.natCast_mul]; exact sz) (by decide)
  have h2 := law_frac_eq (n := 403) (a := t.num) w (Nat.mul_ne_zero t.den_nz hn) (by rw [Int.natCast_mul]; exact sz) (by decide)
  rw [over_eq] at h1 h2
  exact ⟨by rw [bo_mul m1, Int.natCast_mul], h1, h2⟩
theorem mB_ok (C : Cs k cs) {A B x y : Option Sl} {acc : List D} {s : Nat} (w : Pn) (hs : s < k) (ha : acc.length ≤ 1000) :
    ∃ x' y', mB [A, B, some (.val (.tup (cs.map D.pt))), some (.chg acc), some (.val (.int (s : Int))), x, y] w = some (.ok (.nx [A, B, some (.val (.tup (cs.map D.pt))), some (.chg (acc ++ [D.rat (mean cs s)])), some (.val (.int (s : Int))), x', y']) w) := by
  have hlen := C.len
  obtain ⟨y', e⟩ := mS_ok (A := A) (B := B) (E := some (.val (.tup (cs.map D.pt)))) (S := some (.chg acc)) w hs C.k2 cs 0 1 y C.ok bd_zero (by omega)
  obtain ⟨m1, m2, _⟩ := mean_low w (C.sum hs) C.lenS.2 C.lenS.1
  have e' : forL (.nm 6) mB0 (cs.map D.pt) [A, B, some (.val (.tup (cs.map D.pt))), some (.chg acc), some (.val (.int (s : Int))), some (.val (.tup [.int 0, .int 1])), y] w = some (.ok (.nx [A, B, some (.val (.tup (cs.map D.pt))), some (.chg acc), some (.val (.int (s : Int))), some (.val (D.rat (sumL (cs.map (at_ s))))), y']) w) := e
  refine ⟨some (.val (D.rat (sumL (cs.map (at_ s))))), y', ?_⟩
  · unfold mB
    refine (sc_nx (asg_ok (tup_ok (ds := [.int 0, .int 1]) rfl small2) rfl)).trans ?_
    refine (sc_nx (for_of (l := cs.map D.pt) rfl e')).trans ?_
    have el : buF .len [.tup (cs.map D.pt)] = some (.int (cs.length : Int)) := by rw [bu_lenT, List.length_map]
    refine (sc_nx (app_ok (l := acc) rfl (call_ok (args_c (idx_ok (u := D.rat (sumL (cs.map (at_ s)))) rfl rfl rfl) (args_1 (bin_ok (idx_ok (u := D.rat (sumL (cs.map (at_ s)))) rfl rfl rfl) (bui_ok (args_1 (d := .tup (cs.map D.pt)) rfl) el) m1))) m2) ha)).trans ?_
    exact rfl
theorem mL_ok (C : Cs k cs) {A B : Option Sl} (w : Pn) : ∀ (ss : List Nat) (acc : List D) (u x y : Option Sl), (∀ s ∈ ss, s < k) → acc.length + ss.length ≤ 1000 →
    ∃ u' x' y', forL (.nm 4) mB (ss.map fun (s : Nat) => D.int (s : Int)) [A, B, some (.val (.tup (cs.map D.pt))), some (.chg acc), u, x, y] w = some (.ok (.nx [A, B, some (.val (.tup (cs.map D.pt))), some (.chg (acc ++ ss.map fun s => D.rat (mean cs s))), u', x', y']) w)
  | [], acc, u, x, y, _, _ => ⟨u, x, y, by rw [List.map_nil, List.map_nil, List.append_nil]; rfl⟩
  | s :: ss, acc, u, x, y, h, hl => by
    rw [List.length_cons] at hl
    obtain ⟨x1, y1, e1⟩ := mB_ok C (A := A) (B := B) (x := x) (y := y) (acc := acc) w (h s List.mem_cons_self) (by omega)
    obtain ⟨u', x', y', e2⟩ := mL_ok C (A := A) (B := B) w ss (acc ++ [D.rat (mean cs s)]) (some (.val (.int (s : Int)))) x1 y1 (fun t ht => h t (List.mem_cons_of_mem _ ht)) (by rw [List.length_append]; simp; omega)
    refine ⟨u', x', y', ?_⟩
    rw [List.append_assoc] at e2
    rw [List.map_cons, forL]
    show bnd (mB [A, B, some (.val (.tup (cs.map D.pt))), some (.chg acc), some (.val (.int (s : Int))), x, y] w) _ = _
    rw [e1, bnd_ok]
    exact e2
def meanP (k : Nat) (cs : List (List Rat)) : List Rat := (List.range k).map (mean cs)
theorem middle_eq {rays : List (List Int)} {ptss : List (List (List Rat))} {i : Nat} (C : Cs k cs) (w : Pn) (hc : cornersF [valD rays ptss, .int (i : Int)] w = some (.ok (.tup (cs.map D.pt)) w)) : middleF [valD rays ptss, .int (i : Int)] w = some (.ok (D.pt (meanP k cs)) w) := by
  have hk := C.k2
  have em : D.pt (meanP k cs) = .tup ((List.range k).map fun s => D.rat (mean cs s)) := by unfold D.pt meanP; rw [List.map_map]; rfl
  rw [em]
  refine fn_rt rfl ?_
  unfold middleB
  have e1 : spar2m 2 3 (xcall cornersF (acons (xvar 0) (acons (xvar 1) (anil)))) (startE 7 [valD rays ptss, .int (i : Int)]) w = some (.ok (.nx [some (.val (valD rays ptss)), some (.val (.int (i : Int))), some (.val (.tup (cs.map D.pt))), some (.chg []), none, none, none]) w) := by
    unfold spar2m
    rw [call_ok (ds := [valD rays ptss, .int (i : Int)]) rfl hc]; rfl
  refine (sc_nx e1).trans ?_
  obtain ⟨c, cs', ecs⟩ := List.exists_cons_of_ne_nil C.ne
  have hl : buF .len [D.pt c] = some (.int (k : Int)) := by
    show some (D.int ((c.map D.rat).length : Nat)) = _
    rw [List.length_map, (C.ok c (by rw [ecs]; exact List.mem_cons_self)).len]
  have hx : xidx (xvar 2) (xcst (.int 0)) [some (.val (valD rays ptss)), some (.val (.int (i : Int))), some (.val (.tup (cs.map D.pt))), some (.chg []), none, none, none] w = some (.ok (D.pt c) w) := by
    refine idx_ok (u := .tup (cs.map D.pt)) rfl rfl ?_
    exact at_nat (i := 0) (by rw [ecs]; rfl) (by rw [List.length_map]; have := C.len; omega)
  obtain ⟨u', x', y', e2⟩ := mL_ok C (A := some (.val (valD rays ptss))) (B := some (.val (.int (i : Int)))) w (List.range k) [] none none none (fun s hs => List.mem_range.mp hs) (by rw [List.length_range]; simp; omega)
  refine (sc_nx (for_of (rng_of (bui_ok (args_1 hx) hl) (by omega)) e2)).trans ?_
  exact sc_rt rfl
end
end Rh
set_option Elab.async false
set_option linter.all false
set_option maxRecDepth 100000
set_option maxHeartbeats 4000000
/-! Rh: draws. -/
namespace Rh
open PySem L2
def bigN : Nat := 1048577
/-- the pen, good for m draws -/
structure PnOk (m : Nat) (w : Pn) : Prop where
  cells : ∀ c ∈ w.cells, Sz bigN c
  len : w.cells.length ≤ 63
  at0 : 0 ≤ w.at_
  at1 : w.at_ + (m : Int) ≤ 100000
  rest : 0 ≤ w.rest
theorem PnOk.mono {m n : Nat} {w : Pn} (h : PnOk m w) (k : n ≤ m) : PnOk n w := ⟨h.cells, h.len, h.at0, by have := h.at1; omega, h.rest⟩
theorem ne_nil (ns : List Int) : coF .ne (.lst (ns.map .int)) (.lst []) = some (.bl (!ns.isEmpty)) := by
  show (eqF (.lst (ns.map .int)) (.lst [])).map (fun k => D.bl (!k)) = _
  unfold eqF
  simp only [D.py, pys_ints, D.pys, Option.map_some]
  cases ns with
  | nil => rfl
  | cons n r =>
    have h1 := shaped_ints (n :: r)
    have h2 := shaped_ints []
    rw [List.map_nil] at h2
    rw [h1, h2]
    rfl
theorem sz_nat {n : Nat} {i : Int} (h0 : 0 ≤ i) (h : i < 2 ^ n) : Sz n i := by
  unfold Sz
  have : (i.natAbs : Int) < ((2 ^ n : Nat) : Int) := by
    rw [Int.natAbs_of_nonneg h0]
    push_cast
    exact h
  exact_mod_cast this
theorem spen_ok {n : Nat} {e : XF} {σ : En} {w w1 w2 : Pn} {i : Int} (h : e (some (.val .pen) :: σ) w = some (.ok (.int i) w1)) (hp : penPut n i w1 = some w2) : spen n (xvar 0) e (some (.val .pen) :: σ) w = some (.ok (.nx (some (.val .pen) :: σ)) w2) := by
  unfold spen
  rw [h, bnd_ok]
  show bnd (some (Out.ok D.pen w1)) _ = _
  rw [bnd_ok]
  simp only [hp]
theorem pow_ok {x y : XF} {σ : En} {w w1 w2 : Pn} {i j : Int} (h : x σ w = some (.ok (.int i) w1)) (g : y σ w1 = some (.ok (.int j) w2)) (h0 : 0 ≤ j) (h1 : j ≤ 1000000) (h2 : i.natAbs < 2 ^ 64) : xpow x y σ w = some (.ok (.int (i ^ j.toNat)) w2) := by
  unfold xpow
  rw [h, bnd_ok, g, bnd_ok]
  simp only [powF, decide_eq_true h0, decide_eq_true h1, decide_eq_true h2, Bool.and_self, if_true, opt_some]
theorem big_ok {x y : XF} {σ : En} {w w1 w2 : Pn} {i j : Int} {m n : Nat} (h : x σ w = some (.ok (.int i) w1)) (g : y σ w1 = some (.ok (.int j) w2)) (hi : Sz m i) (hj : Sz n j) (hm : m + n ≤ 10000000) : xbig x y σ w = some (.ok (.int (i * j)) w2) := by
  have h1 := (hi.mono (Nat.le_succ m)).log (Nat.succ_pos m)
  have h2 := (hj.mono (Nat.le_succ n)).log (Nat.succ_pos n)
  have hb : bigOk i j = true := by unfold bigOk; exact decide_eq_true (by omega)
  unfold xbig
  rw [h, bnd_ok, g, bnd_ok]
  simp only [bigF, hb, if_true, opt_some]
def dA : SF := scons (sasg (.nm 2) (xbin .mod (xbui .int (acons (xpen 2 (xvar 0)) anil)) (xvar 1))) (scons (spen 2 (xvar 0) (xbin .fdiv (xbui .int (acons (xpen 2 (xvar 0)) anil)) (xvar 1))) (scons (sret (xvar 2)) (snil)))
def dG : SF := scons (sasg (.nm 5) (xbin .add (xbig (xcst (.int 2)) (xbin .sub (xbui .abs (acons (xvar 4) anil)) (xpow (xcst (.int 10)) (xcst (.int 18))))) (xbui .int (acons (xcmp .lt (xvar 4) (xcst (.int 0))) anil)))) (scons (spen 2 (xvar 0) (xbin .fdiv (xbui .int (acons (xvar 5) anil)) (xvar 1))) (scons (sret (xbin .mod (xbui .int (acons (xvar 5) anil)) (xvar 1))) (snil)))
def dB : SF := scons (sasg (.nm 6) (xbin .mod (xbui .int (acons (xpow (xbin .add (xbin .add (xbin .mod (xbui .int (acons (xvar 4) anil)) (xcst (.int 2147483549))) (xbin .mul (xcst (.int 110339)) (xvar 3))) (xcst (.int 12713))) (xcst (.int 5))) anil)) (xcst (.int 2147483629)))) (scons (sasg (.nm 6) (xbin .mod (xbui .int (acons (xpow (xbin .add (xbin .add (xbin .mul (xvar 6) (xbin .add (xbin .mul (xcst (.int 2)) (xvar 3)) (xcst (.int 4519)))) (xbin .mul (xbin .mul (xcst (.int 97423)) (xvar 3)) (xvar 3))) (xcst (.int 12713))) (xcst (.int 3))) anil)) (xcst (.int 2147483587)))) (scons (sret (xbin .mod (xbui .int (acons (xbin .fdiv (xvar 6) (xcst (.int 64))) anil)) (xvar 1))) (snil)))
def dC : SF := site (xtru (xcmp .ne (xpen 0 (xvar 0)) (xlst (anil)))) (scons (sasg (.nm 4) (xidx (xpen 0 (xvar 0)) (xbin .mod (xbui .int (acons (xvar 3) anil)) (xbui .len (acons (xpen 0 (xvar 0)) anil))))) (snil)) (snil)
def dT : TF := tand (xtru (xcmp .lt (xvar 3) (xbui .len (acons (xpen 0 (xvar 0)) anil)))) (xtru (xcmp .ge (xbui .abs (acons (xvar 4) anil)) (xpow (xcst (.int 10)) (xcst (.int 18)))))
theorem law_drawB_eq : law_drawB = scons (site (xtru (xcmp .gt (xpen 2 (xvar 0)) (xcst (.int 0)))) dA (snil)) (scons (sasg (.nm 3) (xpen 1 (xvar 0))) (scons (spen 1 (xvar 0) (xbin .add (xvar 3) (xcst (.int 1)))) (scons (sasg (.nm 4) (xbin .add (xbin .mul (xcst (.int 110339)) (xvar 3)) (xcst (.int 12713)))) (scons dC (scons (site dT dG (snil)) dB))))) := rfl
theorem div_ok' {many : Int} (h0 : 0 < many) (h1 : many ≤ 1000000) : divOk many = true := div_ok (n := 20) (sz_nat (by omega) (by
  have : (2 : Int) ^ 20 = 1048576 := by decide
  omega)) (by decide) h0
theorem mod_in {a many : Int} (h0 : 0 < many) : 0 ≤ a % many ∧ a % many < many := ⟨Int.emod_nonneg _ (by omega), Int.emod_lt_of_pos _ h0⟩
theorem int_ok {e : XF} {σ : En} {w w1 : Pn} {i : Int} (h : e σ w = some (.ok (.int i) w1)) : xbui .int (acons e anil) σ w = some (.ok (.int i) w1) := bui_ok (args_1 h) rfl
section
variable {many : Int} {w : Pn} {m : Nat}
theorem dA_ok (h0 : 0 < many) (h1 : many ≤ 1000000) {a b c d e : Option Sl} : dA [some (.val .pen), some (.val (.int many)), a, b, c, d, e] w = some (.ok (.rt (.int (w.rest % many))) { w with rest := w.rest / many }) := by
  unfold dA
  refine (sc_nx (asg_ok (bin_ok (int_ok (i := w.rest) rfl) rfl (bo_mod h0)) rfl)).trans ?_
  refine (sc_nx (spen_ok (bin_ok (int_ok (i := w.rest) rfl) rfl (bo_fdiv (div_ok' h0 h1))) rfl)).trans ?_
  exact sc_rt rfl
/-- the cell -/
theorem dC_ok (P : PnOk m w) {at_ c0 : Int} {a d e : Option Sl} (ha : 0 ≤ at_) (hc : Sz bigN c0) : ∃ c, Sz bigN c ∧ dC [some (.val .pen), some (.val (.int many)), a, some (.val (.int at_)), some (.val (.int c0)), d, e] w = some (.ok (.nx [some (.val .pen), some (.val (.int many)), a, some (.val (.int at_)), some (.val (.int c)), d, e]) w) := by
  have t : xtru (xcmp .ne (xpen 0 (xvar 0)) (xlst (anil))) [some (.val .pen), some (.val (.int many)), a, some (.val (.int at_)), some (.val (.int c0)), d, e] w = some (.ok (!w.cells.isEmpty) w) := tru_ok (cmp_ok (u := .lst (w.cells.map .int)) rfl (lst_ok (ds := []) rfl small0) (ne_nil _))
  by_cases hz : w.cells = []
  · rw [hz] at t
    refine ⟨c0, hc, ?_⟩
    unfold dC
    exact (if_no t).trans rfl
  · have e1 : (!w.cells.isEmpty) = true := by
      cases q : w.cells with
      | nil => exact absurd q hz
      | cons a r => rfl
    rw [e1] at t
    have hl : 0 < w.cells.length := List.length_pos_iff.mpr hz
    obtain ⟨n, e2, hlt⟩ : ∃ n : Nat, at_ % (w.cells.length : Int) = (n : Int) ∧ n < w.cells.length := by
      have := mod_in (a := at_) (many := (w.cells.length : Int)) (by omega)
      exact ⟨(at_ % (w.cells.length : Int)).toNat, by omega, by omega⟩
    have e3 : w.cells[n]? = some (w.cells[n]'hlt) := List.getElem?_eq_getElem hlt
    have hlen := P.len
    have e4 : idxF (.lst (w.cells.map .int)) (.int (at_ % (w.cells.length : Int))) = some (.int (w.cells[n]'hlt)) := by
      rw [e2]
      exact at_nat (by rw [List.getElem?_map, e3]; rfl) (by rw [List.length_map]; omega)
    refine ⟨w.cells[n]'hlt, P.cells _ (List.getElem_mem _), ?_⟩
    have el : buF .len [.lst (w.cells.map .int)] = some (.int (w.cells.length : Int)) := by rw [bu_lenL, List.length_map]
    unfold dC
    refine (if_yes t).trans ?_
    exact (sc_nx (asg_ok (idx_ok (u := .lst (w.cells.map .int)) rfl (bin_ok (int_ok (i := at_) rfl) (bui_ok (args_1 (d := .lst (w.cells.map .int)) rfl) el) (bo_mod (by omega))) e4) rfl)).trans rfl
theorem p18 : ((10 : Int) ^ (18 : Int).toNat) = 1000000000000000000 := by decide
theorem pow18 {σ : En} : xpow (xcst (.int 10)) (xcst (.int 18)) σ w = some (.ok (.int 1000000000000000000) w) := by
  have := pow_ok (x := xcst (.int 10)) (y := xcst (.int 18)) (σ := σ) (w := w) (w1 := w) (w2 := w) (i := 10) (j := 18) rfl rfl (by decide) (by decide) (by decide)
  rwa [p18] at this
theorem dG_ok (h0 : 0 < many) (h1 : many ≤ 1000000) {c : Int} (hc : Sz bigN c) {a b d e : Option Sl} (hg : 1000000000000000000 ≤ (c.natAbs : Int)) : ∃ r z, 0 ≤ r ∧ r < many ∧ 0 ≤ z ∧ dG [some (.val .pen), some (.val (.int many)), a, b, some (.val (.int c)), d, e] w = some (.ok (.rt (.int r)) { w with rest := z }) := by
  have sc : Sz (bigN + 1) ((c.natAbs : Int) - 1000000000000000000) := by
    unfold Sz at *
    have : (2 : Nat) ^ bigN ≤ 2 ^ (bigN + 1) := Nat.pow_le_pow_right (by decide) (Nat.le_succ _)
    omega
  have s2 : Sz 2 (2 : Int) := by show (2 : Nat) < 2 ^ 2; decide
  have hbn : 2 + (bigN + 1) ≤ 10000000 := by unfold bigN; decide
  have hb : ∃ g : Int, (g = 0 ∨ g = 1) ∧ xbui .int (acons (xcmp .lt (xvar 4) (xcst (.int 0))) anil) [some (.val .pen), some (.val (.int many)), a, b, some (.val (.int c)), d, e] w = some (.ok (.int g) w) := by
    by_cases q : c < 0
    · exact ⟨1, .inr rfl, bui_ok (args_1 (cmp_ok (u := .int c) (v := .int 0) (z := .bl true) rfl rfl (by rw [co_lt, decide_eq_true q]))) rfl⟩
    · exact ⟨0, .inl rfl, bui_ok (args_1 (cmp_ok (u := .int c) (v := .int 0) (z := .bl false) rfl rfl (by rw [co_lt, decide_eq_false q]))) rfl⟩
  obtain ⟨g, hg01, eg⟩ := hb
  have e1 : xbig (xcst (.int 2)) (xbin .sub (xbui .abs (acons (xvar 4) anil)) (xpow (xcst (.int 10)) (xcst (.int 18)))) [some (.val .pen), some (.val (.int many)), a, b, some (.val (.int c)), d, e] w = some (.ok (.int (2 * ((c.natAbs : Int) - 1000000000000000000))) w) :=
    big_ok rfl (bin_ok (bui_ok (args_1 (d := .int c) rfl) (bu_abs c)) pow18 (bo_sub _ _)) s2 sc hbn
  generalize hG : 2 * ((c.natAbs : Int) - 1000000000000000000) + g = G
  have G0 : 0 ≤ G := by rcases hg01 with z | z <;> omega
  refine ⟨G % many, G / many, (mod_in h0).1, (mod_in h0).2, Int.ediv_nonneg G0 (by omega), ?_⟩
  unfold dG
  have e2 := bin_ok (o := .add) e1 eg (bo_add _ _)
  rw [hG] at e2
  refine (sc_nx (asg_ok e2 rfl)).trans ?_
  refine (sc_nx (spen_ok (bin_ok (int_ok (i := G) rfl) rfl (bo_fdiv (div_ok' h0 h1))) rfl)).trans ?_
  exact sc_rt (ret_ok (bin_ok (int_ok (i := G) rfl) rfl (bo_mod h0)))
theorem dB_ok (h0 : 0 < many) {c at_ : Int} (ha0 : 0 ≤ at_) (ha1 : at_ ≤ 100000) {a d e : Option Sl} : ∃ r, 0 ≤ r ∧ r < many ∧ dB [some (.val .pen), some (.val (.int many)), a, some (.val (.int at_)), some (.val (.int c)), d, e] w = some (.ok (.rt (.int r)) w) := by
  have p40 : (2 : Int) ^ 40 = 1099511627776 := by decide
  have p63 : (2 : Int) ^ 63 = 9223372036854775808 := by decide
  have sat : Sz 40 at_ := sz_nat ha0 (by omega)
  have k1 : Sz 40 (110339 : Int) := sz_nat (by decide) (by rw [p40]; decide)
  have k2 : Sz 40 (2 : Int) := sz_nat (by decide) (by rw [p40]; decide)
  have k3 : Sz 40 (97423 : Int) := sz_nat (by decide) (by rw [p40]; decide)
  have m1 := mul_ok k1 sat (by decide)
  have r1 := mod_in (a := c) (many := 2147483549) (by decide)
  generalize hc : c % 2147483549 = c1 at *
  have b1 : (c1 + 110339 * at_ + 12713).natAbs < 2 ^ 64 := by
    have : (2 : Nat) ^ 64 = 18446744073709551616 := by decide
    omega
  have e1 : xpow (xbin .add (xbin .add (xbin .mod (xbui .int (acons (xvar 4) anil)) (xcst (.int 2147483549))) (xbin .mul (xcst (.int 110339)) (xvar 3))) (xcst (.int 12713))) (xcst (.int 5)) [some (.val .pen), some (.val (.int many)), a, some (.val (.int at_)), some (.val (.int c)), d, e] w = some (.ok (.int ((c1 + 110339 * at_ + 12713) ^ (5 : Int).toNat)) w) := by
    have em := bo_mod (i := c) (j := 2147483549) (by decide)
    rw [hc] at em
    exact pow_ok (bin_ok (bin_ok (bin_ok (int_ok (i := c) rfl) rfl em) (bin_ok rfl rfl (bo_mul m1)) (bo_add _ _)) rfl (bo_add _ _)) rfl (by decide) (by decide) b1
  generalize (c1 + 110339 * at_ + 12713) ^ (5 : Int).toNat = X at *
  have r2 := mod_in (a := X) (many := 2147483629) (by decide)
  have e2 := bin_ok (o := .mod) (int_ok e1) (y := xcst (.int 2147483629)) rfl (bo_mod (i := X) (j := 2147483629) (by decide))
  generalize X % 2147483629 = Y at *
  have sY : Sz 40 Y := sz_nat r2.1 (by omega)
  have sA : Sz 40 (2 * at_ + 4519) := sz_nat (by omega) (by omega)
  have m2 := mul_ok k2 sat (by decide)
  have m3 := mul_ok sY sA (by decide)
  have m4 := mul_ok k3 sat (by decide)
  have m5 := mul_ok (k3.mul sat) sat (by decide)
  have q1 : Y * (2 * at_ + 4519) ≤ 2147483629 * 204519 := Int.mul_le_mul (by omega) (by omega) (by omega) (by omega)
  have q0 : 0 ≤ Y * (2 * at_ + 4519) := Int.mul_nonneg (by omega) (by omega)
  have q2 : 97423 * at_ * at_ ≤ 97423 * 100000 * 100000 := Int.mul_le_mul (by omega) (by omega) (by omega) (by omega)
  have q3 : 0 ≤ 97423 * at_ * at_ := Int.mul_nonneg (by omega) (by omega)
  have b2 : (Y * (2 * at_ + 4519) + 97423 * at_ * at_ + 12713).natAbs < 2 ^ 64 := by
    have : (2 : Nat) ^ 64 = 18446744073709551616 := by decide
    omega
  have e3 : xpow (xbin .add (xbin .add (xbin .mul (xvar 6) (xbin .add (xbin .mul (xcst (.int 2)) (xvar 3)) (xcst (.int 4519)))) (xbin .mul (xbin .mul (xcst (.int 97423)) (xvar 3)) (xvar 3))) (xcst (.int 12713))) (xcst (.int 3)) [some (.val .pen), some (.val (.int many)), a, some (.val (.int at_)), some (.val (.int c)), d, some (.val (.int Y))] w = some (.ok (.int ((Y * (2 * at_ + 4519) + 97423 * at_ * at_ + 12713) ^ (3 : Int).toNat)) w) :=
    pow_ok (bin_ok (bin_ok (bin_ok rfl (bin_ok (bin_ok rfl rfl (bo_mul m2)) rfl (bo_add _ _)) (bo_mul m3)) (bin_ok (bin_ok rfl rfl (bo_mul m4)) rfl (bo_mul m5)) (bo_add _ _)) rfl (bo_add _ _)) rfl (by decide) (by decide) b2
  generalize (Y * (2 * at_ + 4519) + 97423 * at_ * at_ + 12713) ^ (3 : Int).toNat = Z at *
  have e4 := bin_ok (o := .mod) (int_ok e3) (y := xcst (.int 2147483587)) rfl (bo_mod (i := Z) (j := 2147483587) (by decide))
  generalize Z % 2147483587 = U at *
  have d64 : divOk 64 = true := div_ok' (by decide) (by decide)
  refine ⟨U / 64 % many, (mod_in h0).1, (mod_in h0).2, ?_⟩
  unfold dB
  refine (sc_nx (asg_ok e2 rfl)).trans ?_
  refine (sc_nx (asg_ok e4 rfl)).trans ?_
  exact sc_rt (ret_ok (bin_ok (int_ok (bin_ok (u := .int U) rfl rfl (bo_fdiv d64))) rfl (bo_mod h0)))
theorem draw_ok (P : PnOk (m + 1) w) (h0 : 0 < many) (h1 : many ≤ 1000000) : ∃ d w', law_drawF [.pen, .int many] w = some (.ok (.int d) w') ∧ 0 ≤ d ∧ d < many ∧ PnOk m w' := by
  have a0 := P.at0
  have a1 := P.at1
  have st : startE 7 [.pen, .int many] = [some (.val .pen), some (.val (.int many)), none, none, none, none, none] := rfl
  by_cases hr : 0 < w.rest
  · refine ⟨w.rest % many, { w with rest := w.rest / many }, fn_rt rfl ?_, (mod_in h0).1, (mod_in h0).2, ⟨P.cells, P.len, P.at0, by show w.at_ + (m : Int) ≤ 100000; omega, Int.ediv_nonneg P.rest (by omega)⟩⟩
    rw [law_drawB_eq, st]
    refine sc_rt ((if_yes (w1 := w) ?_).trans (dA_ok h0 h1))
    refine tru_ok (cmp_ok (u := .int w.rest) (v := .int 0) rfl rfl ?_)
    rw [co_gt, decide_eq_true hr]
  · have t0 : xtru (xcmp .gt (xpen 2 (xvar 0)) (xcst (.int 0))) [some (.val .pen), some (.val (.int many)), none, none, none, none, none] w = some (.ok false w) := by
      refine tru_ok (cmp_ok (u := .int w.rest) (v := .int 0) rfl rfl ?_)
      rw [co_gt, decide_eq_false hr]
    have p40 : (2 : Int) ^ 40 = 1099511627776 := by decide
    have sat : Sz 40 w.at_ := sz_nat a0 (by omega)
    have k1 : Sz 40 (110339 : Int) := sz_nat (by decide) (by rw [p40]; decide)
    have m1 := mul_ok k1 sat (by decide)
    have hN : 40 ≤ bigN := by unfold bigN; decide
    have c0 : Sz bigN (110339 * w.at_ + 12713) := (sz_nat (n := 40) (by omega) (by omega)).mono hN
    have P1 : PnOk m { w with at_ := w.at_ + 1 } := ⟨P.cells, P.len, by show (0 : Int) ≤ w.at_ + 1; omega, by show w.at_ + 1 + (m : Int) ≤ 100000; omega, P.rest⟩
    obtain ⟨c, sc, ec⟩ := dC_ok (many := many) (a := none) (d := none) (e := none) P1 a0 c0
    have pre : law_drawB [some (.val .pen), some (.val (.int many)), none, none, none, none, none] w = scons (site dT dG (snil)) dB [some (.val .pen), some (.val (.int many)), none, some (.val (.int w.at_)), some (.val (.int c)), none, none] { w with at_ := w.at_ + 1 } := by
      rw [law_drawB_eq]
      refine (sc_nx ((if_no t0).trans rfl)).trans ?_
      refine (sc_nx (asg_ok (d := .int w.at_) rfl rfl)).trans ?_
      refine (sc_nx (spen_ok (bin_ok (u := .int w.at_) (v := .int 1) rfl rfl (bo_add _ _)) rfl)).trans ?_
      refine (sc_nx (asg_ok (bin_ok (bin_ok (u := .int 110339) (v := .int w.at_) rfl rfl (bo_mul m1)) rfl (bo_add _ _)) rfl)).trans ?_
      exact sc_nx ec
    have el : buF .len [.lst (w.cells.map .int)] = some (.int (w.cells.length : Int)) := by rw [bu_lenL, List.length_map]
    have tA : xtru (xcmp .lt (xvar 3) (xbui .len (acons (xpen 0 (xvar 0)) anil))) [some (.val .pen), some (.val (.int many)), none, some (.val (.int w.at_)), some (.val (.int c)), none, none] { w with at_ := w.at_ + 1 } = some (.ok (decide (w.at_ < (w.cells.length : Int))) { w with at_ := w.at_ + 1 }) :=
      tru_ok (cmp_ok (u := .int w.at_) rfl (bui_ok (args_1 (d := .lst (w.cells.map .int)) rfl) el) (co_lt _ _))
    have tB : xtru (xcmp .ge (xbui .abs (acons (xvar 4) anil)) (xpow (xcst (.int 10)) (xcst (.int 18)))) [some (.val .pen), some (.val (.int many)), none, some (.val (.int w.at_)), some (.val (.int c)), none, none] { w with at_ := w.at_ + 1 } = some (.ok (decide (1000000000000000000 ≤ (c.natAbs : Int))) { w with at_ := w.at_ + 1 }) :=
      tru_ok (cmp_ok (bui_ok (args_1 (d := .int c) rfl) (bu_abs c)) pow18 (co_ge _ _))
    have low : dT [some (.val .pen), some (.val (.int many)), none, some (.val (.int w.at_)), some (.val (.int c)), none, none] { w with at_ := w.at_ + 1 } = some (.ok false { w with at_ := w.at_ + 1 }) → ∃ d w', law_drawF [.pen, .int many] w = some (.ok (.int d) w') ∧ 0 ≤ d ∧ d < many ∧ PnOk m w' := fun t => by
      obtain ⟨r, hr0, hr1, er⟩ := dB_ok (w := { w with at_ := w.at_ + 1 }) (c := c) (at_ := w.at_) (a := none) (d := none) (e := none) h0 a0 (by omega)
      refine ⟨r, _, fn_rt rfl ?_, hr0, hr1, P1⟩
      rw [st, pre]
      exact (sc_nx ((if_no t).trans rfl)).trans er
    by_cases q1 : w.at_ < (w.cells.length : Int)
    · rw [decide_eq_true q1] at tA
      by_cases q2 : 1000000000000000000 ≤ (c.natAbs : Int)
      · rw [decide_eq_true q2] at tB
        obtain ⟨r, z, hr0, hr1, hz, er⟩ := dG_ok (w := { w with at_ := w.at_ + 1 }) (a := none) (b := some (.val (.int w.at_))) (d := none) (e := none) h0 h1 sc q2
        refine ⟨r, { w with at_ := w.at_ + 1, rest := z }, fn_rt rfl ?_, hr0, hr1, ⟨P1.cells, P1.len, P1.at0, P1.at1, hz⟩⟩
        rw [st, pre]
        exact sc_rt ((if_yes ((and_t tA).trans tB)).trans er)
      · rw [decide_eq_false q2] at tB
        exact low ((and_t tA).trans tB)
    · rw [decide_eq_false q1] at tA
      exact low (and_f tA)
end
end Rh
set_option Elab.async false
set_option linter.all false
set_option maxRecDepth 100000
set_option maxHeartbeats 4000000
/-! Rh: drawn points, drawn rays. -/
namespace Rh
open PySem L2
theorem comp_draw {β : Type} {σ : En} {own : List Nat} {t : Tg} {s : AF} {e : XF} {w w1 : Pn} {l : List D} {m : Nat} (g : β → D) (Q : β → Prop) (c : Nat) (hs : s σ w = some (.ok l w1)) (P : PnOk (c * l.length + m) w1)
    (h : ∀ d ∈ l, ∀ (w : Pn) (m : Nat), PnOk (c + m) w → ∃ τ y w', setT (wipeE σ own) t d = some τ ∧ e τ w = some (.ok (g y) w') ∧ Q y ∧ PnOk m w') (hl : l.length ≤ 1000000) :
    ∃ (ys : List β) (w' : Pn), xcomp own t s tyes e σ w = some (.ok (.lst (ys.map g)) w') ∧ (∀ y ∈ ys, Q y) ∧ ys.length = l.length ∧ PnOk m w' := by
  have key : ∀ (ds : List D) (acc : List D) (w : Pn), (∀ d ∈ ds, d ∈ l) → acc.length + ds.length ≤ 1000000 → PnOk (c * ds.length + m) w → ∃ (ys : List β) (w' : Pn), compL σ own t tyes e ds acc w = some (.ok (acc ++ ys.map g) w') ∧ (∀ y ∈ ys, Q y) ∧ ys.length = ds.length ∧ PnOk m w' := by
    intro ds
    induction ds with
    | nil => intro acc w _ _ P; exact ⟨[], w, by simp [compL], by simp, rfl, by simpa using P⟩
    | cons d ds ih =>
      intro acc w hm hl P
      rw [List.length_cons] at hl P
      obtain ⟨τ, y, w', e1, e2, hq, P'⟩ := h d (hm d List.mem_cons_self) w (c * ds.length + m) (P.mono (by rw [Nat.mul_succ]; omega))
      obtain ⟨ys, w2, e3, h3, h4, P2⟩ := ih (acc ++ [g y]) w' (fun x hx => hm x (List.mem_cons_of_mem _ hx)) (by simp; omega) P'
      refine ⟨y :: ys, w2, ?_, fun z hz => ?_, by rw [List.length_cons, List.length_cons, h4], P2⟩
      · unfold compL
        simp only [e1, tyes, bnd_ok, if_true, e2]
        rw [if_pos (small_le (by omega)), e3]
        simp
      · rcases List.mem_cons.mp hz with q | q
        · rw [q]; exact hq
        · exact h3 z q
  obtain ⟨ys, w', e1, h2, h3, P'⟩ := key l [] w1 (fun _ h => h) (by simpa using hl) P
  refine ⟨ys, w', ?_, h2, h3, P'⟩
  unfold xcomp
  rw [hs]
  simp only [bnd_ok]
  rw [e1]
  simp [noEx]
theorem draw_call {a : XF} {many : Int} {σ : En} {w w1 : Pn} {m : Nat} (ha : a σ w = some (.ok .pen w1)) (P : PnOk (m + 1) w1) (h0 : 0 < many) (h1 : many ≤ 1000000) : ∃ d w', xcall law_drawF (acons a (acons (xcst (.int many)) anil)) σ w = some (.ok (.int d) w') ∧ 0 ≤ d ∧ d < many ∧ PnOk m w' := by
  obtain ⟨d, w', e, h2, h3, P'⟩ := draw_ok P h0 h1
  exact ⟨d, w', call_ok (args_c ha rfl) e, h2, h3, P'⟩
/-- one coordinate -/
def eFr : XF := xcall law_fracF (acons (xbin .sub (xcall law_drawF (acons (xvar 0) (acons (xcst (.int 25)) (anil)))) (xcst (.int 12))) (acons (xbin .add (xcst (.int 1)) (xcall law_drawF (acons (xvar 0) (acons (xcst (.int 4)) (anil))))) (anil)))
theorem frac_draw {σ : En} {w : Pn} {m : Nat} (P : PnOk (2 + m) w) : ∃ q w', eFr (some (.val .pen) :: σ) w = some (.ok (D.rat q) w') ∧ Bd 5 q ∧ PnOk m w' := by
  obtain ⟨d1, w1, e1, h1, h2, P1⟩ := draw_call (a := xvar 0) (σ := some (.val .pen) :: σ) (w := w) (w1 := w) (m := m + 1) (many := 25) rfl (P.mono (by omega)) (by decide) (by decide)
  obtain ⟨d2, w2, e2, g1, g2, P2⟩ := draw_call (a := xvar 0) (σ := some (.val .pen) :: σ) (w := w1) (w1 := w1) (m := m) (many := 4) rfl P1 (by decide) (by decide)
  have hb : (1 : Int) + d2 = (((1 + d2).toNat : Nat) : Int) := by omega
  have hn : (1 + d2).toNat ≠ 0 := by omega
  have s1 : Sz 5 (d1 - 12) := by show (d1 - 12).natAbs < 2 ^ 5; omega
  have s2 : Sz 5 (((1 + d2).toNat : Nat) : Int) := by show (((1 + d2).toNat : Nat) : Int).natAbs < 2 ^ 5; omega
  have f := law_frac_eq (a := d1 - 12) w2 hn s2 (by decide)
  refine ⟨_, w2, call_ok (ds := [.int (d1 - 12), .int (((1 + d2).toNat : Nat) : Int)]) ?_ f, bd_div hn s1 s2, P2⟩
  rw [← hb]
  exact args_c (bin_ok e1 rfl (bo_sub _ _)) (args_1 (bin_ok rfl e2 (bo_add _ _)))
def pB : SF := scons (sapp 2 (xbui .tuple (acons (xcomp [4] (.nm 4) (srcRng1 (xvar 1)) (tyes) eFr) anil))) (snil)
theorem pL_ok {k : Nat} (h12 : k = 1 ∨ k = 2) : ∀ (ss : List D) (acc : List (List Rat)) (x : Option Sl) (w : Pn) (m : Nat), PnOk (4 * ss.length + m) w → acc.length + ss.length ≤ 10 → (∀ p ∈ acc, PtOk k 5 p) →
    ∃ (pts : List (List Rat)) (x' : Option Sl) (w' : Pn), forL (.nm 3) pB ss [some (.val .pen), some (.val (.int (k : Int))), some (.chg (acc.map D.pt)), x, none] w = some (.ok (.nx [some (.val .pen), some (.val (.int (k : Int))), some (.chg (pts.map D.pt)), x', none]) w') ∧ pts.length = acc.length + ss.length ∧ (∀ p ∈ pts, PtOk k 5 p) ∧ PnOk m w'
  | [], acc, x, w, m, P, hl, ha => ⟨acc, x, w, rfl, by simp, ha, by simpa using P⟩
  | d :: ss, acc, x, w, m, P, hl, ha => by
    rw [List.length_cons] at hl P
    have hr : srcRng1 (xvar 1) [some (.val .pen), some (.val (.int (k : Int))), some (.chg (acc.map D.pt)), some (.val d), none] w = some (.ok ((List.range k).map fun (i : Nat) => D.int (i : Int)) w) := rng_of rfl (by omega)
    have hlen : ((List.range k).map fun (i : Nat) => D.int (i : Int)).length = k := by rw [List.length_map, List.length_range]
    obtain ⟨ys, w1, e1, h1, h2, P1⟩ := comp_draw (σ := [some (.val .pen), some (.val (.int (k : Int))), some (.chg (acc.map D.pt)), some (.val d), none]) (own := [4]) (t := .nm 4) (e := eFr) (m := 4 * ss.length + m) D.rat (Bd 5) 2 hr (P.mono (by rw [hlen]; omega)) (fun d' hd w m P => by
      obtain ⟨q, w', e, b, P'⟩ := frac_draw (σ := [some (.val (.int (k : Int))), some (.chg (acc.map D.pt)), some (.val d), some (.val d')]) (w := w) (m := m) P
      exact ⟨_, q, w', rfl, e, b, P'⟩) (by rw [hlen]; omega)
    have e2 : pB [some (.val .pen), some (.val (.int (k : Int))), some (.chg (acc.map D.pt)), some (.val d), none] w = some (.ok (.nx [some (.val .pen), some (.val (.int (k : Int))), some (.chg ((acc ++ [ys]).map D.pt)), some (.val d), none]) w1) := by
      unfold pB
      refine (sc_nx (app_ok (l := acc.map D.pt) rfl (bui_ok (args_1 e1) (bu_tupL _)) (by rw [List.length_map]; omega))).trans ?_
      rw [List.map_append]; rfl
    obtain ⟨pts, x', w', e3, h3, h4, P'⟩ := pL_ok h12 ss (acc ++ [ys]) (some (.val d)) w1 m P1 (by rw [List.length_append]; simp; omega) (fun p hp => by
      rcases List.mem_append.mp hp with z | z
      · exact ha p z
      · rw [List.mem_singleton.mp z]; exact ⟨by rw [h2, hlen], h1⟩)
    refine ⟨pts, x', w', ?_, by rw [h3, List.length_append]; simp; omega, h4, P'⟩
    rw [forL]
    show bnd (pB [some (.val .pen), some (.val (.int (k : Int))), some (.chg (acc.map D.pt)), some (.val d), none] w) _ = _
    rw [e2, bnd_ok]
    exact e3
theorem points_ok {k m : Nat} {w : Pn} (h12 : k = 1 ∨ k = 2) (P : PnOk (17 + m) w) : ∃ (pts : List (List Rat)) (w' : Pn), law_pointsF [.pen, .int (k : Int)] w = some (.ok (.lst (pts.map D.pt)) w') ∧ PtsOk k pts ∧ pts.length ≤ 4 ∧ PnOk m w' := by
  obtain ⟨d, w1, e1, h1, h2, P1⟩ := draw_call (a := xvar 0) (σ := [some (.val .pen), some (.val (.int (k : Int))), some (.chg []), none, none]) (w := w) (w1 := w) (m := 16 + m) (many := 4) rfl (P.mono (by omega)) (by decide) (by decide)
  have hd : (1 : Int) + d = (((1 + d).toNat : Nat) : Int) := by omega
  have hr : srcRng1 (xbin .add (xcst (.int 1)) (xcall law_drawF (acons (xvar 0) (acons (xcst (.int 4)) (anil))))) [some (.val .pen), some (.val (.int (k : Int))), some (.chg []), none, none] w = some (.ok ((List.range (1 + d).toNat).map fun (i : Nat) => D.int (i : Int)) w1) := by
    have eb := bin_ok (o := .add) (x := xcst (.int 1)) (w := w) rfl e1 (bo_add 1 d)
    rw [hd] at eb
    have hb := b62 (m := (1 + d).toNat) (by omega)
    generalize (1 + d).toNat = n at *
    unfold srcRng1
    rw [eb, bnd_ok]
    show (if bound62 (n : Int) = true then some (Out.ok ((List.range ((n : Int)).toNat).map fun (i : Nat) => D.int (0 + (i : Int))) w1) else none) = _
    rw [if_pos hb, Int.toNat_natCast]
    simp only [Int.zero_add]
  have hlen : ((List.range (1 + d).toNat).map fun (i : Nat) => D.int (i : Int)).length = (1 + d).toNat := by rw [List.length_map, List.length_range]
  obtain ⟨pts, x', w', e2, h3, h4, P'⟩ := pL_ok h12 ((List.range (1 + d).toNat).map fun (i : Nat) => D.int (i : Int)) [] none w1 m (P1.mono (by rw [hlen]; omega)) (by rw [hlen]; simp; omega) (by simp)
  rw [hlen] at h3
  simp at h3
  refine ⟨pts, w', fn_rt rfl ?_, ⟨fun z => by rw [z] at h3; simp at h3; omega, by omega, h4⟩, by omega, P'⟩
  unfold law_pointsB
  have e0 : snew 2 (startE 5 [.pen, .int (k : Int)]) w = some (.ok (.nx [some (.val .pen), some (.val (.int (k : Int))), some (.chg []), none, none]) w) := rfl
  refine (sc_nx e0).trans ?_
  refine (sc_nx (for_of hr e2)).trans ?_
  exact sc_rt rfl
theorem low_all (w : Pn) : ∀ (x y : Nat), x < 9 → y < 4 → law_low_rayF [.tup [.int ((x : Int) - 4), .int (1 + (y : Int))]] w = some (.ok (D.ray (lowI ((x : Int) - 4) (1 + (y : Int)))) w)
  | 0, 0, _, _ => rfl
  | 0, 1, _, _ => rfl
  | 0, 2, _, _ => rfl
  | 0, 3, _, _ => rfl
  | 1, 0, _, _ => rfl
  | 1, 1, _, _ => rfl
  | 1, 2, _, _ => rfl
  | 1, 3, _, _ => rfl
  | 2, 0, _, _ => rfl
  | 2, 1, _, _ => rfl
  | 2, 2, _, _ => rfl
  | 2, 3, _, _ => rfl
  | 3, 0, _, _ => rfl
  | 3, 1, _, _ => rfl
  | 3, 2, _, _ => rfl
  | 3, 3, _, _ => rfl
  | 4, 0, _, _ => rfl
  | 4, 1, _, _ => rfl
  | 4, 2, _, _ => rfl
  | 4, 3, _, _ => rfl
  | 5, 0, _, _ => rfl
  | 5, 1, _, _ => rfl
  | 5, 2, _, _ => rfl
  | 5, 3, _, _ => rfl
  | 6, 0, _, _ => rfl
  | 6, 1, _, _ => rfl
  | 6, 2, _, _ => rfl
  | 6, 3, _, _ => rfl
  | 7, 0, _, _ => rfl
  | 7, 1, _, _ => rfl
  | 7, 2, _, _ => rfl
  | 7, 3, _, _ => rfl
  | 8, 0, _, _ => rfl
  | 8, 1, _, _ => rfl
  | 8, 2, _, _ => rfl
  | 8, 3, _, _ => rfl
  | x + 9, y, h, _ => absurd h (by omega)
  | x, y + 4, _, h => absurd h (by omega)
def eLow : XF := xcall law_low_rayF (acons (xtup (acons (xbin .sub (xcall law_drawF (acons (xvar 1) (acons (xcst (.int 9)) (anil)))) (xcst (.int 4))) (acons (xbin .add (xcst (.int 1)) (xcall law_drawF (acons (xvar 1) (acons (xcst (.int 4)) (anil))))) (anil)))) (anil))
theorem low_draw {A : Option Sl} {σ : En} {w : Pn} {m : Nat} (P : PnOk (2 + m) w) : ∃ r w', eLow (A :: some (.val .pen) :: σ) w = some (.ok (D.ray r) w') ∧ r ∈ ext ∧ PnOk m w' := by
  obtain ⟨d1, w1, e1, h1, h2, P1⟩ := draw_call (a := xvar 1) (σ := A :: some (.val .pen) :: σ) (w := w) (w1 := w) (m := m + 1) (many := 9) rfl (P.mono (by omega)) (by decide) (by decide)
  obtain ⟨d2, w2, e2, g1, g2, P2⟩ := draw_call (a := xvar 1) (σ := A :: some (.val .pen) :: σ) (w := w1) (w1 := w1) (m := m) (many := 4) rfl P1 (by decide) (by decide)
  obtain ⟨x, rfl⟩ : ∃ x : Nat, d1 = (x : Int) := ⟨d1.toNat, by omega⟩
  obtain ⟨y, rfl⟩ : ∃ y : Nat, d2 = (y : Int) := ⟨d2.toNat, by omega⟩
  have lo := low_all w2 x y (by omega) (by omega)
  exact ⟨_, w2, call_ok (args_1 (tup_ok (args_c (bin_ok e1 rfl (bo_sub _ _)) (args_1 (bin_ok rfl e2 (bo_add _ _)))) small2)) lo, low_ext x y (by omega) (by omega), P2⟩
end Rh
set_option Elab.async false
set_option linter.all false
set_option maxRecDepth 100000
set_option maxHeartbeats 4000000
/-! Rh: what lies within; the law's look at one guess. -/
namespace Rh
open PySem L2
section
variable {k : Nat} {rays : List (List Int)} {pts : List (List Rat)}
theorem inB_of {p : List Rat} (h : ∀ r ∈ rays, dot r p ≤ great r pts) : inB rays (rowOf rays pts) p = true := by
  unfold inB
  rw [List.all_eq_true]
  rintro ⟨r, i⟩ hx
  have hx' := List.mem_zipIdx hx
  have hi : i < rays.length := by omega
  have er : r = rays[i] := by have := hx'.2.2; simpa using this
  have eg : (rowOf rays pts).getD i 0 = great r pts := by
    rw [List.getD_eq_getElem?_getD]
    unfold rowOf
    rw [List.getElem?_map, List.getElem?_eq_getElem hi, er]; rfl
  refine decide_eq_true ?_
  show dot r p ≤ (rowOf rays pts).getD i 0
  rw [eg, er]
  exact h _ (List.getElem_mem _)
theorem of_inB {p : List Rat} (h : inB rays (rowOf rays pts) p = true) : ∀ r ∈ rays, dot r p ≤ great r pts := fun r hr => by
  obtain ⟨i, hi, rfl⟩ := List.getElem_of_mem hr
  unfold inB at h
  rw [List.all_eq_true] at h
  have := h (rays[i], i) (by
    have e2 : rays.zipIdx[i]'(by rw [List.length_zipIdx]; omega) = (rays[i], 0 + i) := List.getElem_zipIdx _
    rw [Nat.zero_add] at e2
    rw [← e2]; exact List.getElem_mem _)
  have eg : (rowOf rays pts).getD i 0 = great rays[i] pts := by
    rw [List.getD_eq_getElem?_getD]
    unfold rowOf
    rw [List.getElem?_map, List.getElem?_eq_getElem hi]; rfl
  have h2 := of_decide_eq_true this
  show dot rays[i] p ≤ _
  rw [← eg]; exact h2
theorem pts_in (hp : PtsOk k pts) : ∀ p ∈ pts, inB rays (rowOf rays pts) p = true := fun p hm => inB_of fun r _ => great_ge hm
theorem sum_le {a b g : Rat} : ∀ (l : List (List Rat)) (t0 t1 : Rat), (∀ c ∈ l, at_ 0 c * a + at_ 1 c * b ≤ g) → (l.map (at_ 0)).foldl (· + ·) t0 * a + (l.map (at_ 1)).foldl (· + ·) t1 * b ≤ t0 * a + t1 * b + ((l.length : Nat) : Rat) * g
  | [], t0, t1, _ => by
    have : (((([] : List (List Rat)).length : Nat)) : Rat) = 0 := rfl
    rw [this]
    show t0 * a + t1 * b ≤ _
    grind
  | c :: l, t0, t1, h => by
    have ih := sum_le (a := a) (b := b) (g := g) l (t0 + at_ 0 c) (t1 + at_ 1 c) fun d hd => h d (List.mem_cons_of_mem _ hd)
    have hc := h c List.mem_cons_self
    have el : (((c :: l).length : Nat) : Rat) = ((l.length : Nat) : Rat) + 1 := by
      rw [List.length_cons]; push_cast; rfl
    rw [List.map_cons, List.map_cons, List.foldl_cons, List.foldl_cons, el]
    grind
theorem mean_le {cs : List (List Rat)} {a b g : Rat} (hn : cs ≠ []) (h : ∀ c ∈ cs, at_ 0 c * a + at_ 1 c * b ≤ g) : mean cs 0 * a + mean cs 1 * b ≤ g := by
  have s := sum_le (a := a) (b := b) (g := g) cs 0 0 h
  have hl : 0 < cs.length := List.length_pos_iff.mpr hn
  have hp : (0 : Rat) < ((cs.length : Nat) : Rat) := by exact_mod_cast hl
  have hne : ((cs.length : Nat) : Rat) ≠ 0 := fun z => by rw [z] at hp; exact absurd hp (by decide)
  unfold mean sumL
  generalize (cs.map (at_ 0)).foldl (· + ·) 0 = S at *
  generalize (cs.map (at_ 1)).foldl (· + ·) 0 = U at *
  generalize ((cs.length : Nat) : Rat) = N at *
  refine Rat.le_of_mul_le_mul_right (c := N) ?_ hp
  have e : (S / N * a + U / N * b) * N = S * a + U * b := by grind
  rw [e]
  grind
theorem mean_in (K : Kin k rays) (hp : PtsOk k pts) : inB rays (rowOf rays pts) (meanP k (csOf k rays pts)) = true := by
  have hc := cs_ok K hp
  have hl := cs_len (pts := pts) K
  have hne : csOf k rays pts ≠ [] := fun z => by rw [z] at hl; have := K.n2; simp at hl; omega
  refine inB_of fun r hr => ?_
  have each : ∀ c ∈ csOf k rays pts, dot r c ≤ great r pts := fun c hm => of_inB (hc c hm).2 r hr
  have rk := K.rok r hr
  have h12 := K.k12
  generalize csOf k rays pts = cs at *
  rcases h12 with rfl | rfl
  · obtain ⟨a, rfl⟩ := one_len rk.len
    have := mean_le (cs := cs) (a := (a : Rat)) (b := 0) (g := great [a] pts) hne (fun c hm => by
      obtain ⟨x, rfl⟩ := one_len (hc c hm).1.len
      have := each _ hm
      rw [dot_1] at this
      show x * (a : Rat) + _ * 0 ≤ _
      grind)
    show dot [a] [mean cs 0] ≤ _
    rw [dot_1]
    grind
  · obtain ⟨a, b, rfl⟩ := two_len rk.len
    have := mean_le (cs := cs) (a := (a : Rat)) (b := (b : Rat)) (g := great [a, b] pts) hne (fun c hm => by
      obtain ⟨x, y, rfl⟩ := two_len (hc c hm).1.len
      have := each _ hm
      rw [dot_2] at this
      exact this)
    show dot [a, b] [mean cs 0, mean cs 1] ≤ _
    rw [dot_2]
    exact this
theorem Cs.of (K : Kin k rays) (hp : PtsOk k pts) : Cs k (csOf k rays pts) := by
  have hl := cs_len (pts := pts) K
  have h7 := K.n7
  have h2 := K.n2
  exact ⟨K.k12, fun z => by rw [z] at hl; simp at hl; omega, by omega, fun c hc => (cs_ok K hp c hc).1⟩
theorem Cs.meanPt {cs : List (List Rat)} (C : Cs k cs) : PtOk k 403 (meanP k cs) := ⟨by unfold meanP; rw [List.length_map, List.length_range], fun x hx => by
  obtain ⟨s, hs, rfl⟩ := List.mem_map.mp hx
  exact C.meanB (List.mem_range.mp hs)⟩
theorem PtOk.mono {m n : Nat} {p : List Rat} (h : PtOk k m p) (hm : m ≤ n) : PtOk k n p := ⟨h.len, fun x hx => (h.bd x hx).mono hm⟩
end
/-! ### the law's own least, greatest, totals -/
def oB0 : SF := scons (spar3 14 15 12 (xife (xtru (xcall law_is_at_mostF (acons (xvar 16) (acons (xvar 14) (anil))))) (xvar 16) (xvar 14)) (xife (xtru (xcall law_is_at_mostF (acons (xvar 15) (acons (xvar 16) (anil))))) (xvar 16) (xvar 15)) (xcall law_sumF (acons (xvar 12) (acons (xvar 16) (acons (xcst (.int 1)) (anil)))))) (snil)
def oB : SF := scons (spar2 11 12 (xcomp [13] (.nm 13) (srcSeq (xvar 6)) (tyes) (xidx (xvar 13) (xvar 10))) (xtup (acons (xcst (.int 0)) (acons (xcst (.int 1)) (anil))))) (scons (spar2 14 15 (xidx (xvar 11) (xcst (.int 0))) (xidx (xvar 11) (xcst (.int 0)))) (scons (sfor (.nm 16) (srcSeq (xvar 11)) oB0) (scons (sapp 8 (xtup (acons (xvar 14) (acons (xvar 15) (anil))))) (scons (sapp 9 (xcall law_fracF (acons (xidx (xvar 12) (xcst (.int 0))) (acons (xbin .mul (xidx (xvar 12) (xcst (.int 1))) (xbui .len (acons (xvar 11) anil))) (anil))))) (snil)))))
theorem ife_ok {t : TF} {x y : XF} {σ : En} {w w1 w2 : Pn} {b : Bool} {d : D} (h : t σ w = some (.ok b w1)) (g : (if b = true then x σ w1 else y σ w1) = some (.ok d w2)) : xife t x y σ w = some (.ok d w2) := by
  unfold xife; rw [h]; exact g
section
variable {A0 A1 A2 A3 A4 A5 A6 A7 A8 A9 A10 A11 A13 A17 : Option Sl}
abbrev st18 (A0 A1 A2 A3 A4 A5 A6 A7 A8 A9 A10 A11 A12 A13 A14 A15 A16 A17 : Option Sl) : En := [A0, A1, A2, A3, A4, A5, A6, A7, A8, A9, A10, A11, A12, A13, A14, A15, A16, A17]
theorem one_sz : Sz 1 (1 : Int) := by show (1 : Nat) < 2 ^ 1; decide
theorem rat_one (q : Rat) : q * ((1 : Int) : Rat) = q := by
  have i1 : ((1 : Int) : Rat) = 1 := by decide
  rw [i1]; grind
theorem oL_ok (w : Pn) : ∀ (l : List Rat) (lo hi t : Rat) (m : Nat) (x : Option Sl), (∀ q ∈ l, Bd 56 q) → Bd 56 lo → Bd 56 hi → Bd m t → m + 57 * l.length ≤ 1000 →
    ∃ x', forL (.nm 16) oB0 (l.map D.rat) (st18 A0 A1 A2 A3 A4 A5 A6 A7 A8 A9 A10 A11 (some (.val (D.rat t))) A13 (some (.val (D.rat lo))) (some (.val (D.rat hi))) x A17) w = some (.ok (.nx (st18 A0 A1 A2 A3 A4 A5 A6 A7 A8 A9 A10 A11 (some (.val (D.rat (l.foldl (· + ·) t)))) A13 (some (.val (D.rat (l.foldl lowS lo)))) (some (.val (D.rat (l.foldl higS hi)))) x' A17)) w)
  | [], lo, hi, t, m, x, _, _, _, _, _ => ⟨x, rfl⟩
  | q :: l, lo, hi, t, m, x, h, hlo, hhi, ht, hm => by
    rw [List.length_cons] at hm
    have hq := h q List.mem_cons_self
    have hlo' : Bd 56 (lowS lo q) := by unfold lowS; split <;> assumption
    have hhi' : Bd 56 (higS hi q) := by unfold higS; split <;> assumption
    obtain ⟨x', e⟩ := oL_ok w l (lowS lo q) (higS hi q) (t + q) (m + 57) (some (.val (D.rat q))) (fun y hy => h y (List.mem_cons_of_mem _ hy)) hlo' hhi' (bd_add ht hq) (by omega)
    have a1 := law_am_eq w hq hlo (by decide)
    have a2 := law_am_eq w hhi hq (by decide)
    have a3 := law_sum_eq w ht hq one_sz (by omega)
    rw [rat_one] at a3
    refine ⟨x', ?_⟩
    rw [List.map_cons, List.foldl_cons, List.foldl_cons, List.foldl_cons, forL]
    have e1 : oB0 (st18 A0 A1 A2 A3 A4 A5 A6 A7 A8 A9 A10 A11 (some (.val (D.rat t))) A13 (some (.val (D.rat lo))) (some (.val (D.rat hi))) (some (.val (D.rat q))) A17) w = some (.ok (.nx (st18 A0 A1 A2 A3 A4 A5 A6 A7 A8 A9 A10 A11 (some (.val (D.rat (t + q)))) A13 (some (.val (D.rat (lowS lo q)))) (some (.val (D.rat (higS hi q)))) (some (.val (D.rat q))) A17)) w) := by
      unfold oB0
      refine (sc_nx (τ := st18 A0 A1 A2 A3 A4 A5 A6 A7 A8 A9 A10 A11 (some (.val (D.rat (t + q)))) A13 (some (.val (D.rat (lowS lo q)))) (some (.val (D.rat (higS hi q)))) (some (.val (D.rat q))) A17) (w1 := w) ?_).trans rfl
      have x1 : xife (xtru (xcall law_is_at_mostF (acons (xvar 16) (acons (xvar 14) (anil))))) (xvar 16) (xvar 14) (st18 A0 A1 A2 A3 A4 A5 A6 A7 A8 A9 A10 A11 (some (.val (D.rat t))) A13 (some (.val (D.rat lo))) (some (.val (D.rat hi))) (some (.val (D.rat q))) A17) w = some (.ok (D.rat (lowS lo q)) w) := by
        refine ife_ok (tru_ok (call_ok (ds := [D.rat q, D.rat lo]) rfl a1)) ?_
        unfold lowS
        by_cases c : q ≤ lo
        · rw [decide_eq_true c, if_pos c]; rfl
        · rw [decide_eq_false c, if_neg c]; rfl
      have x2 : xife (xtru (xcall law_is_at_mostF (acons (xvar 15) (acons (xvar 16) (anil))))) (xvar 16) (xvar 15) (st18 A0 A1 A2 A3 A4 A5 A6 A7 A8 A9 A10 A11 (some (.val (D.rat t))) A13 (some (.val (D.rat lo))) (some (.val (D.rat hi))) (some (.val (D.rat q))) A17) w = some (.ok (D.rat (higS hi q)) w) := by
        refine ife_ok (tru_ok (call_ok (ds := [D.rat hi, D.rat q]) rfl a2)) ?_
        unfold higS
        by_cases c : hi ≤ q
        · rw [decide_eq_true c, if_pos c]; rfl
        · rw [decide_eq_false c, if_neg c]; rfl
      have x3 : xcall law_sumF (acons (xvar 12) (acons (xvar 16) (acons (xcst (.int 1)) (anil)))) (st18 A0 A1 A2 A3 A4 A5 A6 A7 A8 A9 A10 A11 (some (.val (D.rat t))) A13 (some (.val (D.rat lo))) (some (.val (D.rat hi))) (some (.val (D.rat q))) A17) w = some (.ok (D.rat (t + q)) w) := call_ok (ds := [D.rat t, D.rat q, .int 1]) rfl a3
      unfold spar3
      rw [x1, bnd_ok, x2, bnd_ok, x3, bnd_ok]
      rfl
    show bnd (oB0 (st18 A0 A1 A2 A3 A4 A5 A6 A7 A8 A9 A10 A11 (some (.val (D.rat t))) A13 (some (.val (D.rat lo))) (some (.val (D.rat hi))) (some (.val (D.rat q))) A17) w) _ = _
    rw [e1, bnd_ok]
    exact e
variable {k : Nat} {cs : List (List Rat)}
theorem oB_ok (C : Cs k cs) {x11 x12 x13 x14 x15 x16 : Option Sl} {a b : List D} {s : Nat} (w : Pn) (hs : s < k) (ha : a.length ≤ 1000) (hb : b.length ≤ 1000) :
    ∃ y11 y12 y14 y15 y16, oB (st18 A0 A1 A2 A3 A4 A5 (some (.val (.lst (cs.map D.pt)))) A7 (some (.chg a)) (some (.chg b)) (some (.val (.int (s : Int)))) x11 x12 x13 x14 x15 x16 A17) w
      = some (.ok (.nx (st18 A0 A1 A2 A3 A4 A5 (some (.val (.lst (cs.map D.pt)))) A7 (some (.chg (a ++ [widD cs s]))) (some (.chg (b ++ [D.rat (mean cs s)]))) (some (.val (.int (s : Int)))) y11 y12 x13 y14 y15 y16 A17)) w) := by
  have hlen := C.len
  have hne := C.own_ne s
  have hbd := C.bd hs
  have hc1 : xcomp [13] (.nm 13) (srcSeq (xvar 6)) (tyes) (xidx (xvar 13) (xvar 10)) (st18 A0 A1 A2 A3 A4 A5 (some (.val (.lst (cs.map D.pt)))) A7 (some (.chg a)) (some (.chg b)) (some (.val (.int (s : Int)))) x11 x12 x13 x14 x15 x16 A17) w = some (.ok (.lst ((cs.map (at_ s)).map D.rat)) w) := by
    rw [List.map_map]
    exact comp_of cs D.pt _ rfl (fun c hc => ⟨st18 A0 A1 A2 A3 A4 A5 (some (.val (.lst (cs.map D.pt)))) A7 (some (.chg a)) (some (.chg b)) (some (.val (.int (s : Int)))) x11 x12 (some (.val (D.pt c))) x14 x15 x16 A17, rfl, idx_ok (u := D.pt c) rfl rfl (at_pt (C.ok c hc) hs C.k2).1⟩) (by omega)
  obtain ⟨m1, _, m3⟩ := mean_low w (C.sum hs) C.lenS.2 C.lenS.1
  have hol : (cs.map (at_ s)).length = cs.length := List.length_map _
  have esum : D.rat (mean cs s) = D.rat (sumL (cs.map (at_ s)) / ((cs.length : Nat) : Rat)) := rfl
  have ewid : widD cs s = .tup [D.rat (lowR (cs.map (at_ s))), D.rat (higR (cs.map (at_ s)))] := rfl
  have hsb := C.sum hs
  rw [esum, ewid]
  generalize hown : cs.map (at_ s) = own at *
  obtain ⟨q, qs, rfl⟩ := List.exists_cons_of_ne_nil hne
  have hq := hbd q List.mem_cons_self
  obtain ⟨x', e⟩ := oL_ok (A0 := A0) (A1 := A1) (A2 := A2) (A3 := A3) (A4 := A4) (A5 := A5) (A6 := some (.val (.lst (cs.map D.pt)))) (A7 := A7) (A8 := some (.chg a)) (A9 := some (.chg b)) (A10 := some (.val (.int (s : Int)))) (A11 := some (.val (.lst ((q :: qs).map D.rat)))) (A13 := x13) (A17 := A17) w (q :: qs) q q 0 1 x16 hbd hq hq bd_zero (by omega)
  have elow : (q :: qs).foldl lowS q = lowR (q :: qs) := by
    show qs.foldl lowS (lowS q q) = qs.foldl lowS q
    have : lowS q q = q := by unfold lowS; split <;> rfl
    rw [this]
  have ehig : (q :: qs).foldl higS q = higR (q :: qs) := by
    show qs.foldl higS (higS q q) = qs.foldl higS q
    have : higS q q = q := by unfold higS; split <;> rfl
    rw [this]
  have etot : (q :: qs).foldl (· + ·) 0 = sumL (q :: qs) := rfl
  rw [elow, ehig, etot] at e
  refine ⟨some (.val (.lst ((q :: qs).map D.rat))), some (.val (D.rat (sumL (q :: qs)))), some (.val (D.rat (lowR (q :: qs)))), some (.val (D.rat (higR (q :: qs)))), x', ?_⟩
  unfold oB
  have e1 : spar2 11 12 (xcomp [13] (.nm 13) (srcSeq (xvar 6)) (tyes) (xidx (xvar 13) (xvar 10))) (xtup (acons (xcst (.int 0)) (acons (xcst (.int 1)) (anil)))) (st18 A0 A1 A2 A3 A4 A5 (some (.val (.lst (cs.map D.pt)))) A7 (some (.chg a)) (some (.chg b)) (some (.val (.int (s : Int)))) x11 x12 x13 x14 x15 x16 A17) w = some (.ok (.nx (st18 A0 A1 A2 A3 A4 A5 (some (.val (.lst (cs.map D.pt)))) A7 (some (.chg a)) (some (.chg b)) (some (.val (.int (s : Int)))) (some (.val (.lst ((q :: qs).map D.rat)))) (some (.val (D.rat 0))) x13 x14 x15 x16 A17)) w) := by
    unfold spar2
    rw [hc1, bnd_ok, tup_ok (ds := [.int 0, .int 1]) rfl small2, bnd_ok]
    rfl
  refine (sc_nx e1).trans ?_
  have g0 : idxF (.lst ((q :: qs).map D.rat)) (.int 0) = some (D.rat q) := at_nat (i := 0) rfl (by rw [List.length_map]; omega)
  have e2 : spar2 14 15 (xidx (xvar 11) (xcst (.int 0))) (xidx (xvar 11) (xcst (.int 0))) (st18 A0 A1 A2 A3 A4 A5 (some (.val (.lst (cs.map D.pt)))) A7 (some (.chg a)) (some (.chg b)) (some (.val (.int (s : Int)))) (some (.val (.lst ((q :: qs).map D.rat)))) (some (.val (D.rat 0))) x13 x14 x15 x16 A17) w = some (.ok (.nx (st18 A0 A1 A2 A3 A4 A5 (some (.val (.lst (cs.map D.pt)))) A7 (some (.chg a)) (some (.chg b)) (some (.val (.int (s : Int)))) (some (.val (.lst ((q :: qs).map D.rat)))) (some (.val (D.rat 0))) x13 (some (.val (D.rat q))) (some (.val (D.rat q))) x16 A17)) w) := by
    have z : xidx (xvar 11) (xcst (.int 0)) (st18 A0 A1 A2 A3 A4 A5 (some (.val (.lst (cs.map D.pt)))) A7 (some (.chg a)) (some (.chg b)) (some (.val (.int (s : Int)))) (some (.val (.lst ((q :: qs).map D.rat)))) (some (.val (D.rat 0))) x13 x14 x15 x16 A17) w = some (.ok (D.rat q) w) := idx_ok (u := .lst ((q :: qs).map D.rat)) rfl rfl g0
    unfold spar2
    rw [z, bnd_ok, z, bnd_ok]
    rfl
  refine (sc_nx e2).trans ?_
  refine (sc_nx (for_of (l := (q :: qs).map D.rat) rfl e)).trans ?_
  refine (sc_nx (app_ok (l := a) rfl (tup_ok (ds := [D.rat (lowR (q :: qs)), D.rat (higR (q :: qs))]) rfl small2) ha)).trans ?_
  have el : buF .len [.lst ((q :: qs).map D.rat)] = some (.int (cs.length : Int)) := by rw [bu_lenL, List.length_map, hol]
  refine (sc_nx (app_ok (l := b) rfl (call_ok (args_c (idx_ok (u := D.rat (sumL (q :: qs))) rfl rfl rfl) (args_1 (bin_ok (idx_ok (u := D.rat (sumL (q :: qs))) rfl rfl rfl) (bui_ok (args_1 (d := .lst ((q :: qs).map D.rat)) rfl) el) m1))) m3) hb)).trans ?_
  exact rfl
theorem oS_ok (C : Cs k cs) (w : Pn) : ∀ (ss : List Nat) (a b : List D) (x10 x11 x12 x13 x14 x15 x16 : Option Sl), (∀ s ∈ ss, s < k) → a.length + ss.length ≤ 1000 → b.length + ss.length ≤ 1000 →
    ∃ y10 y11 y12 y14 y15 y16, forL (.nm 10) oB (ss.map fun (s : Nat) => D.int (s : Int)) (st18 A0 A1 A2 A3 A4 A5 (some (.val (.lst (cs.map D.pt)))) A7 (some (.chg a)) (some (.chg b)) x10 x11 x12 x13 x14 x15 x16 A17) w
      = some (.ok (.nx (st18 A0 A1 A2 A3 A4 A5 (some (.val (.lst (cs.map D.pt)))) A7 (some (.chg (a ++ ss.map (widD cs)))) (some (.chg (b ++ ss.map fun s => D.rat (mean cs s)))) y10 y11 y12 x13 y14 y15 y16 A17)) w)
  | [], a, b, x10, x11, x12, x13, x14, x15, x16, _, _, _ => ⟨x10, x11, x12, x14, x15, x16, by rw [List.map_nil, List.map_nil, List.map_nil, List.append_nil, List.append_nil]; rfl⟩
  | s :: ss, a, b, x10, x11, x12, x13, x14, x15, x16, h, h1, h2 => by
    rw [List.length_cons] at h1 h2
    obtain ⟨z11, z12, z14, z15, z16, e1⟩ := oB_ok C (A0 := A0) (A1 := A1) (A2 := A2) (A3 := A3) (A4 := A4) (A5 := A5) (A7 := A7) (A17 := A17) (x11 := x11) (x12 := x12) (x13 := x13) (x14 := x14) (x15 := x15) (x16 := x16) (a := a) (b := b) w (h s List.mem_cons_self) (by omega) (by omega)
    obtain ⟨y10, y11, y12, y14, y15, y16, e2⟩ := oS_ok C w ss (a ++ [widD cs s]) (b ++ [D.rat (mean cs s)]) (some (.val (.int (s : Int)))) z11 z12 x13 z14 z15 z16 (fun t ht => h t (List.mem_cons_of_mem _ ht)) (by rw [List.length_append]; simp; omega) (by rw [List.length_append]; simp; omega)
    refine ⟨y10, y11, y12, y14, y15, y16, ?_⟩
    rw [List.append_assoc, List.append_assoc] at e2
    rw [List.map_cons, forL]
    show bnd (oB (st18 A0 A1 A2 A3 A4 A5 (some (.val (.lst (cs.map D.pt)))) A7 (some (.chg a)) (some (.chg b)) (some (.val (.int (s : Int)))) x11 x12 x13 x14 x15 x16 A17) w) _ = _
    rw [e1, bnd_ok]
    exact e2
end
end Rh
set_option Elab.async false
set_option linter.all false
set_option maxRecDepth 100000
set_option maxHeartbeats 4000000
/-! Rh: the law's look at one guess, whole. -/
namespace Rh
open PySem L2
def retF : SF := scons (sret (xcst (.bl false))) (snil)
def xDue : XF := xife (xtru (xcmp .eq (xbui .len (acons (xidx (xvar 4) (xcst (.int 0))) anil)) (xcst (.int 1)))) (xlst (acons (xtup (acons (xtup (acons (xneg (xidx (xidx (xvar 5) (xcst (.int 0))) (xcst (.int 0)))) (acons (xidx (xidx (xvar 5) (xcst (.int 0))) (xcst (.int 1))) (anil)))) (anil))) (acons (xtup (acons (xidx (xvar 5) (xcst (.int 1))) (anil))) (anil)))) (xcomp [7] (.nm 7) (srcRng1 (xbui .len (acons (xvar 4) anil))) (tyes) (xcall law_cornerF (acons (xvar 4) (acons (xvar 5) (acons (xvar 7) (anil))))))
def tDue1 : XF := xcmp .ne (xrepr (xcall cornersF (acons (xvar 1) (acons (xvar 2) (anil))))) (xrepr (xbui .tuple (acons (xvar 6) anil)))
def tDue2 : XF := xcmp .ne (xcallK0 cornersF turn2 2 (acons (xvar 2) (acons (xvar 1) (anil)))) (xbui .tuple (acons (xvar 6) anil))
def xK : XF := xbui .len (acons (xidx (xvar 4) (xcst (.int 0))) anil)
def tWid : XF := xcmp .ne (xrepr (xlst (acons (xcall widthsF (acons (xvar 1) (acons (xvar 2) (anil)))) (acons (xcall middleF (acons (xvar 1) (acons (xvar 2) (anil)))) (anil))))) (xrepr (xlst (acons (xtupM 8) (acons (xtupM 9) (anil)))))
def xSome : XF := xbin .add (xbin .add (xvar 3) (xvar 6)) (xlst (acons (xtupM 9) (anil)))
def xPts : XF := xbin .add xSome (xcall law_pointsF (acons (xvar 0) (acons xK (anil))))
def tIn : XF := xcmp .ne (xrepr (xlst (acons (xcall is_inF (acons (xvar 1) (acons (xvar 2) (acons (xvar 13) (anil))))) (acons (xcallK0 is_inF turn3 3 (acons (xbui .list (acons (xvar 13) anil)) (acons (xvar 2) (acons (xvar 1) (anil))))) (anil))))) (xrepr (xlst (acons (xvar 17) (acons (xvar 17) (anil)))))
def xWit : XF := xcall law_is_withinF (acons (xvar 4) (acons (xvar 5) (acons (xvar 13) (anil))))
def inB1 : SF := scons (sasg (.nm 17) xWit) (scons (site (xtru tIn) retF (snil)) (snil))
def xOut : XF := xcomp [13] (.nm 13) (srcSeq xSome) (tnot (xtru xWit)) (xvar 13)
theorem one_rightB_eq : law_one_rightB = scons (sasg (.tp [4, 5]) (xtup (acons (xfld (xvar 1) 1 2) (acons (xidx (xfld (xvar 1) 1 3) (xvar 2)) (anil))))) (scons (sasg (.nm 6) xDue) (scons (site (tor (xtru tDue1) (xtru tDue2)) retF (snil)) (scons (spar2n 8 9) (scons (sfor (.nm 10) (srcRng1 xK) oB) (scons (site (xtru tWid) retF (snil)) (scons (sfor (.nm 13) (srcSeq xPts) inB1) (scons (sret (xcmp .eq xOut (xlst (anil)))) (snil)))))))) := rfl
theorem callK_ok {f : FnF} {tr : List D → List D} {n : Nat} {as : AF} {σ : En} {w w1 : Pn} {ds : List D} {o : Option (Out D)} (h : as σ w = some (.ok ds w1)) (hn : ds.length = n) (hf : f (tr ds) w1 = o) : xcallK0 f tr n as σ w = o := by
  unfold xcallK0; rw [h, bnd_ok, if_pos hn]; exact hf
theorem bo_cat {a b : List D} (h : a.length + b.length ≤ 1000000) : boF .add (.lst a) (.lst b) = some (.lst (a ++ b)) := by
  show (if small (a.length + b.length) = true then some (D.lst (a ++ b)) else none) = _
  rw [if_pos (small_le h)]
section
variable {k : Nat} {rays : List (List Int)} {ptss : List (List (List Rat))} {i : Nat} {pts : List (List Rat)}
abbrev SG (rays : List (List Int)) (ptss : List (List (List Rat))) (i : Nat) (pts : List (List Rat)) (k : Nat) (a7 a8 a9 a10 a11 a12 a13 a14 a15 a16 a17 : Option Sl) : En :=
  st18 (some (.val .pen)) (some (.val (valD rays ptss))) (some (.val (.int (i : Int)))) (some (.val (.lst (pts.map D.pt)))) (some (.val (.tup (rays.map D.ray)))) (some (.val (.tup ((rowOf rays pts).map D.rat)))) (some (.val (.lst ((csOf k rays pts).map D.pt)))) a7 a8 a9 a10 a11 a12 a13 a14 a15 a16 a17
theorem kEq (V : Val k rays ptss) {a0 a1 a2 a3 : Option Sl} {σ : En} (w : Pn) : xK (a0 :: a1 :: a2 :: a3 :: some (.val (.tup (rays.map D.ray))) :: σ) w = some (.ok (.int (k : Int)) w) := by
  obtain ⟨r0, e0, el⟩ := V.len
  exact bui_ok (args_1 (idx_ok (u := .tup (rays.map D.ray)) rfl rfl e0)) el
theorem due_ok (V : Val k rays ptss) (hi : ptss[i]? = some pts) (w : Pn) {a0 a1 a2 a3 : Option Sl} {a6 : Option Sl} {σ : En} : xDue (a0 :: a1 :: a2 :: a3 :: some (.val (.tup (rays.map D.ray))) :: some (.val (.tup ((rowOf rays pts).map D.rat))) :: a6 :: none :: σ) w = some (.ok (.lst ((csOf k rays pts).map D.pt)) w) := by
  have hps := V.hp pts (List.mem_of_getElem? hi)
  have xk := kEq V (a0 := a0) (a1 := a1) (a2 := a2) (a3 := a3) (σ := some (.val (.tup ((rowOf rays pts).map D.rat))) :: a6 :: none :: σ) w
  have K := V.K
  unfold xDue
  cases hK : K with
  | one =>
    refine ife_ok (b := true) (w1 := w) (tru_ok (cmp_ok xk rfl rfl)) ?_
    have ed : D.rat (-(great [-1] pts)) = .tup [.int (-(great [-1] pts).num), .int ((great [-1] pts).den : Int)] := by
      unfold D.rat
      rw [Rat.neg_num, Rat.neg_den]
    have ec : (csOf 1 one2 pts).map D.pt = [.tup [.tup [.int (-(great [-1] pts).num), .int ((great [-1] pts).den : Int)]], .tup [D.rat (great [1] pts)]] := by
      show [D.tup [D.rat (-(great [-1] pts))], D.tup [D.rat (great [1] pts)]] = _
      rw [ed]
    rw [ec]
    have x0 : xidx (xvar 5) (xcst (.int 0)) (a0 :: a1 :: a2 :: a3 :: some (.val (.tup (one2.map D.ray))) :: some (.val (.tup ((rowOf one2 pts).map D.rat))) :: a6 :: none :: σ) w = some (.ok (D.rat (great [-1] pts)) w) := rfl
    have x1 : xidx (xvar 5) (xcst (.int 1)) (a0 :: a1 :: a2 :: a3 :: some (.val (.tup (one2.map D.ray))) :: some (.val (.tup ((rowOf one2 pts).map D.rat))) :: a6 :: none :: σ) w = some (.ok (D.rat (great [1] pts)) w) := rfl
    have xn : xneg (xidx (xidx (xvar 5) (xcst (.int 0))) (xcst (.int 0))) (a0 :: a1 :: a2 :: a3 :: some (.val (.tup (one2.map D.ray))) :: some (.val (.tup ((rowOf one2 pts).map D.rat))) :: a6 :: none :: σ) w = some (.ok (.int (-(great [-1] pts).num)) w) := by
      unfold xneg
      rw [idx_ok (z := .int (great [-1] pts).num) x0 rfl rfl]; rfl
    exact lst_ok (args_c (tup_ok (args_1 (tup_ok (args_c xn (args_1 (idx_ok x0 rfl rfl))) small2)) small1) (args_1 (tup_ok (args_1 x1) small1))) small2
  | two F =>
    refine ife_ok (b := false) (w1 := w) (tru_ok (cmp_ok xk rfl rfl)) ?_
    have h7 := F.n7
    have ecs : (csOf 2 rays pts).map D.pt = (List.range rays.length).map fun j => D.pt (cor2 rays pts j) := by
      unfold csOf
      rw [if_neg (by decide), List.map_map]; rfl
    rw [ecs]
    have el : buF .len [.tup (rays.map D.ray)] = some (.int (rays.length : Int)) := by rw [bu_lenT, List.length_map]
    exact comp_of (List.range rays.length) (fun j => .int (j : Int)) _ (rng_of (bui_ok (args_1 (d := .tup (rays.map D.ray)) rfl) el) (by omega)) (fun j hj => ⟨a0 :: a1 :: a2 :: a3 :: some (.val (.tup (rays.map D.ray))) :: some (.val (.tup ((rowOf rays pts).map D.rat))) :: a6 :: some (.val (.int (j : Int))) :: σ, rfl, call_ok (ds := [.tup (rays.map D.ray), .tup ((rowOf rays pts).map D.rat), .int (j : Int)]) rfl (corner_two F hps (List.mem_range.mp hj) w).2⟩) (by rw [List.length_range]; omega)
/-- a point: what the law and the program tell -/
theorem in_pt (V : Val k rays ptss) (hi : ptss[i]? = some pts) {p : List Rat} (hp : PtOk k 403 p) (w : Pn) {a7 a8 a9 a10 a11 a12 a14 a15 a16 a17 : Option Sl} : xWit (SG rays ptss i pts k a7 a8 a9 a10 a11 a12 (some (.val (D.pt p))) a14 a15 a16 a17) w = some (.ok (.bl (inB rays (rowOf rays pts) p)) w) := by
  have hps := V.hp pts (List.mem_of_getElem? hi)
  have h7 := V.K.n7
  exact call_ok (ds := [.tup (rays.map D.ray), .tup ((rowOf rays pts).map D.rat), D.pt p]) rfl (law_within_eq V.K.k12 w V.K.rok (great_bd V.K hps) (rowOf_len pts) hp (by decide) (by decide) (by omega))
theorem inB1_ok (V : Val k rays ptss) (hi : ptss[i]? = some pts) {p : List Rat} (hp : PtOk k 403 p) (w : Pn) {a7 a8 a9 a10 a11 a12 a14 a15 a16 a17 : Option Sl} : ∃ b17, inB1 (SG rays ptss i pts k a7 a8 a9 a10 a11 a12 (some (.val (D.pt p))) a14 a15 a16 a17) w = some (.ok (.nx (SG rays ptss i pts k a7 a8 a9 a10 a11 a12 (some (.val (D.pt p))) a14 a15 a16 b17)) w) := by
  have e1 := in_pt V hi hp w (a7 := a7) (a8 := a8) (a9 := a9) (a10 := a10) (a11 := a11) (a12 := a12) (a14 := a14) (a15 := a15) (a16 := a16) (a17 := a17)
  have e2 := is_in_pt V w hi hp (by decide)
  have e3 := is_in_ptl V w hi hp (by decide)
  generalize inB rays (rowOf rays pts) p = b at *
  refine ⟨some (.val (.bl b)), ?_⟩
  unfold inB1
  refine (sc_nx (asg_ok e1 rfl)).trans ?_
  have el : buF .list [D.pt p] = some (D.ptl p) := rfl
  have l1 : xlst (acons (xcall is_inF (acons (xvar 1) (acons (xvar 2) (acons (xvar 13) (anil))))) (acons (xcallK0 is_inF turn3 3 (acons (xbui .list (acons (xvar 13) anil)) (acons (xvar 2) (acons (xvar 1) (anil))))) (anil))) (SG rays ptss i pts k a7 a8 a9 a10 a11 a12 (some (.val (D.pt p))) a14 a15 a16 (some (.val (.bl b)))) w = some (.ok (.lst [.bl b, .bl b]) w) :=
    lst_ok (args_c (call_ok (ds := [valD rays ptss, .int (i : Int), D.pt p]) rfl e2) (args_1 (callK_ok (ds := [D.ptl p, .int (i : Int), valD rays ptss]) (args_c (bui_ok (args_1 (d := D.pt p) rfl) el) rfl) rfl e3))) small2
  have l2 : xlst (acons (xvar 17) (acons (xvar 17) (anil))) (SG rays ptss i pts k a7 a8 a9 a10 a11 a12 (some (.val (D.pt p))) a14 a15 a16 (some (.val (.bl b)))) w = some (.ok (.lst [.bl b, .bl b]) w) := lst_ok (ds := [.bl b, .bl b]) rfl small2
  have t : tIn (SG rays ptss i pts k a7 a8 a9 a10 a11 a12 (some (.val (D.pt p))) a14 a15 a16 (some (.val (.bl b)))) w = some (.ok (.bl false) w) := repr_same l1 l2 (tx_lst (n := 0) (m := 0) (c := 2) (fun d hd => by
    rcases List.mem_cons.mp hd with rfl | hd
    · exact tx_bl b
    · rw [List.mem_singleton.mp hd]; exact tx_bl b) (Nat.le_refl _)) (by decide) (by decide) (fun z => nomatch z)
  exact (sc_nx ((if_no (tru_ok t)).trans rfl)).trans rfl
theorem inL_ok (V : Val k rays ptss) (hi : ptss[i]? = some pts) (w : Pn) {a7 a8 a9 a10 a11 a12 a14 a15 a16 : Option Sl} : ∀ (ps : List (List Rat)) (a13 a17 : Option Sl), (∀ p ∈ ps, PtOk k 403 p) → ∃ b13 b17, forL (.nm 13) inB1 (ps.map D.pt) (SG rays ptss i pts k a7 a8 a9 a10 a11 a12 a13 a14 a15 a16 a17) w = some (.ok (.nx (SG rays ptss i pts k a7 a8 a9 a10 a11 a12 b13 a14 a15 a16 b17)) w)
  | [], a13, a17, _ => ⟨a13, a17, rfl⟩
  | p :: ps, a13, a17, h => by
    obtain ⟨c17, e1⟩ := inB1_ok V hi (h p List.mem_cons_self) w (a7 := a7) (a8 := a8) (a9 := a9) (a10 := a10) (a11 := a11) (a12 := a12) (a14 := a14) (a15 := a15) (a16 := a16) (a17 := a17)
    obtain ⟨b13, b17, e2⟩ := inL_ok V hi w ps (some (.val (D.pt p))) c17 fun q hq => h q (List.mem_cons_of_mem _ hq)
    refine ⟨b13, b17, ?_⟩
    rw [List.map_cons, forL]
    show bnd (inB1 (SG rays ptss i pts k a7 a8 a9 a10 a11 a12 (some (.val (D.pt p))) a14 a15 a16 a17) w) _ = _
    rw [e1, bnd_ok]
    exact e2
theorem one_right (V : Val k rays ptss) (hi : ptss[i]? = some pts) (w : Pn) {m : Nat} (P : PnOk (17 + m) w) : ∃ w', law_one_rightF [.pen, valD rays ptss, .int (i : Int), .lst (pts.map D.pt)] w = some (.ok (.bl true) w') ∧ PnOk m w' := by
  have hps := V.hp pts (List.mem_of_getElem? hi)
  have C := Cs.of V.K hps
  have hco := corners_eq V w hi
  have h2 := C.k2
  have hcl := C.len
  have hpl := hps.len
  obtain ⟨more, w', e7, hm, _, P'⟩ := points_ok (m := m) V.K.k12 P
  refine ⟨w', fn_rt rfl ?_, P'⟩
  rw [one_rightB_eq]
  have st : startE 18 [.pen, valD rays ptss, .int (i : Int), .lst (pts.map D.pt)] = st18 (some (.val .pen)) (some (.val (valD rays ptss))) (some (.val (.int (i : Int)))) (some (.val (.lst (pts.map D.pt)))) none none none none none none none none none none none none none none := rfl
  rw [st]
  have xr : xidx (xfld (xvar 1) 1 3) (xvar 2) (st18 (some (.val .pen)) (some (.val (valD rays ptss))) (some (.val (.int (i : Int)))) (some (.val (.lst (pts.map D.pt)))) none none none none none none none none none none none none none none) w = some (.ok (.tup ((rowOf rays pts).map D.rat)) w) := idx_ok (u := rowsD (ptss.map (rowOf rays))) rfl rfl (V.row hi)
  refine (sc_nx (asg_ok (tup_ok (args_c (d := .tup (rays.map D.ray)) rfl (args_1 xr)) small2) rfl)).trans ?_
  refine (sc_nx (asg_ok (due_ok V hi w) rfl)).trans ?_
  show scons (site (tor (xtru tDue1) (xtru tDue2)) retF (snil)) _ (SG rays ptss i pts k none none none none none none none none none none none) w = _
  -- the corners
  have txc : Tx' 3 49 (.tup ((csOf k rays pts).map D.pt)) := (tx_tup (n := 2) (m := 6) (c := 7) (fun d hd => by
    obtain ⟨c, hc, rfl⟩ := List.mem_map.mp hd
    exact tx_pt (C.ok c hc) h2 (by decide)) (by rw [List.length_map]; exact hcl))
  have plc : Pl 3 (.tup ((csOf k rays pts).map D.pt)) := pl_tup fun d hd => by
    obtain ⟨c, _, rfl⟩ := List.mem_map.mp hd
    exact pl_pt c
  have x6 : ∀ a8 a9, xbui .tuple (acons (xvar 6) anil) (SG rays ptss i pts k none a8 a9 none none none none none none none none) w = some (.ok (.tup ((csOf k rays pts).map D.pt)) w) := fun _ _ => bui_ok (args_1 (d := .lst ((csOf k rays pts).map D.pt)) rfl) (bu_tupL _)
  have t1 : tDue1 (SG rays ptss i pts k none none none none none none none none none none none) w = some (.ok (.bl false) w) := repr_same (call_ok (ds := [valD rays ptss, .int (i : Int)]) rfl hco) (x6 none none) txc (by decide) (by decide) (fun z => nomatch z)
  have t2 : tDue2 (SG rays ptss i pts k none none none none none none none none none none none) w = some (.ok (.bl false) w) := cmp_ok (callK_ok (ds := [.int (i : Int), valD rays ptss]) rfl rfl hco) (x6 none none) (nec_self plc (by decide))
  refine (sc_nx ((if_no ((or_f (tru_ok t1)).trans (tru_ok t2))).trans rfl)).trans ?_
  have e4 : spar2n 8 9 (SG rays ptss i pts k none none none none none none none none none none none) w = some (.ok (.nx (SG rays ptss i pts k none (some (.chg [])) (some (.chg [])) none none none none none none none none)) w) := rfl
  refine (sc_nx e4).trans ?_
  -- widths, middle
  obtain ⟨y10, y11, y12, y14, y15, y16, e5⟩ := oS_ok (A0 := some (.val .pen)) (A1 := some (.val (valD rays ptss))) (A2 := some (.val (.int (i : Int)))) (A3 := some (.val (.lst (pts.map D.pt)))) (A4 := some (.val (.tup (rays.map D.ray)))) (A5 := some (.val (.tup ((rowOf rays pts).map D.rat)))) (A7 := none) (A17 := none) C w (List.range k) [] [] none none none none none none none (fun s hs => List.mem_range.mp hs) (by rw [List.length_range]; simp; omega) (by rw [List.length_range]; simp; omega)
  refine (sc_nx (for_of (rng_of (kEq V w) (by omega)) e5)).trans ?_
  rw [List.nil_append, List.nil_append]
  have em : D.tup ((List.range k).map fun s => D.rat (mean (csOf k rays pts) s)) = D.pt (meanP k (csOf k rays pts)) := by unfold D.pt meanP; rw [List.map_map]; rfl
  have hw := widths_eq C w hco
  have hmi := middle_eq C w hco
  have hmean := C.meanPt
  have hmin := mean_in V.K hps
  show scons (site (xtru tWid) retF (snil)) _ (SG rays ptss i pts k none (some (.chg ((List.range k).map (widD (csOf k rays pts))))) (some (.chg ((List.range k).map fun s => D.rat (mean (csOf k rays pts) s)))) y10 y11 y12 none y14 y15 y16 none) w = _
  have hall : ∀ p ∈ pts ++ csOf k rays pts ++ [meanP k (csOf k rays pts)], PtOk k 403 p ∧ inB rays (rowOf rays pts) p = true := fun p hp => by
    rcases List.mem_append.mp hp with z | z
    · rcases List.mem_append.mp z with z | z
      · exact ⟨(hps.ok p z).mono (by decide), pts_in hps p z⟩
      · have := cs_ok V.K hps p z
        exact ⟨this.1.mono (by decide), this.2⟩
    · rw [List.mem_singleton.mp z]
      exact ⟨hmean, hmin⟩
  have wid_tx : ∀ s ∈ List.range k, Tx' 2 6 (widD (csOf k rays pts) s) := fun s hs => tx_tup (n := 1) (m := 2) (c := 2) (fun d hd => by
    rcases List.mem_cons.mp hd with rfl | hd
    · exact tx_rat (C.bd (List.mem_range.mp hs) _ (low_in (C.own_ne s))) (by decide)
    · rw [List.mem_singleton.mp hd]; exact tx_rat (C.bd (List.mem_range.mp hs) _ (hig_in (C.own_ne s))) (by decide)) (Nat.le_refl _)
  have txw : Tx' 4 30 (.lst [.tup ((List.range k).map (widD (csOf k rays pts))), D.pt (meanP k (csOf k rays pts))]) := by
    refine tx_lst (n := 3) (m := 14) (c := 2) (fun d hd => ?_) (Nat.le_refl _)
    rcases List.mem_cons.mp hd with rfl | hd
    · exact tx_tup (n := 2) (m := 6) (c := 2) (fun e he => by
        obtain ⟨s, hs, rfl⟩ := List.mem_map.mp he
        exact wid_tx s hs) (by rw [List.length_map, List.length_range]; exact h2)
    · rw [List.mem_singleton.mp hd]
      obtain ⟨x, g1, g2, g3, g4, g5, g6, g7⟩ := (tx_pt hmean h2 (by decide)).ex
      exact ⟨x, g1, g2, by omega, g4, g5, by omega, g7⟩
  have t3 : tWid (SG rays ptss i pts k none (some (.chg ((List.range k).map (widD (csOf k rays pts))))) (some (.chg ((List.range k).map fun s => D.rat (mean (csOf k rays pts) s)))) y10 y11 y12 none y14 y15 y16 none) w = some (.ok (.bl false) w) := by
    refine repr_same (w1 := w) (d := .lst [.tup ((List.range k).map (widD (csOf k rays pts))), D.pt (meanP k (csOf k rays pts))]) (lst_ok (args_c (call_ok (ds := [valD rays ptss, .int (i : Int)]) rfl hw) (args_1 (call_ok (ds := [valD rays ptss, .int (i : Int)]) rfl hmi))) small2) (lst_ok (ds := [.tup ((List.range k).map (widD (csOf k rays pts))), D.pt (meanP k (csOf k rays pts))]) ?_ small2) txw (by decide) (by decide) (fun z => nomatch z)
    rw [← em]; rfl
  refine (sc_nx ((if_no (tru_ok t3)).trans rfl)).trans ?_
  -- points
  have xs : ∀ a13 a17, xSome (SG rays ptss i pts k none (some (.chg ((List.range k).map (widD (csOf k rays pts))))) (some (.chg ((List.range k).map fun s => D.rat (mean (csOf k rays pts) s)))) y10 y11 y12 a13 y14 y15 y16 a17) w = some (.ok (.lst ((pts ++ csOf k rays pts ++ [meanP k (csOf k rays pts)]).map D.pt)) w) := fun a13 a17 => by
    have b1 : boF .add (.lst (pts.map D.pt)) (.lst ((csOf k rays pts).map D.pt)) = some (.lst (pts.map D.pt ++ (csOf k rays pts).map D.pt)) := bo_cat (by rw [List.length_map, List.length_map]; omega)
    have b2 : boF .add (.lst (pts.map D.pt ++ (csOf k rays pts).map D.pt)) (.lst [D.pt (meanP k (csOf k rays pts))]) = some (.lst (pts.map D.pt ++ (csOf k rays pts).map D.pt ++ [D.pt (meanP k (csOf k rays pts))])) := bo_cat (by rw [List.length_append, List.length_map, List.length_map]; simp; omega)
    rw [List.map_append, List.map_append]
    refine bin_ok (bin_ok (u := .lst (pts.map D.pt)) (v := .lst ((csOf k rays pts).map D.pt)) rfl rfl b1) (lst_ok (ds := [D.pt (meanP k (csOf k rays pts))]) ?_ small1) b2
    rw [← em]; rfl
  have xp : xPts (SG rays ptss i pts k none (some (.chg ((List.range k).map (widD (csOf k rays pts))))) (some (.chg ((List.range k).map fun s => D.rat (mean (csOf k rays pts) s)))) y10 y11 y12 none y14 y15 y16 none) w = some (.ok (.lst ((pts ++ csOf k rays pts ++ [meanP k (csOf k rays pts)] ++ more).map D.pt)) w') := by
    rw [List.map_append]
    refine bin_ok (xs none none) (call_ok (args_c (d := .pen) rfl (args_1 (kEq V w))) e7) (bo_cat ?_)
    have := hm.len
    simp only [List.length_map, List.length_append, List.length_cons, List.length_nil]
    omega
  obtain ⟨b13, b17, e8⟩ := inL_ok V hi w' (a7 := none) (a8 := some (.chg ((List.range k).map (widD (csOf k rays pts))))) (a9 := some (.chg ((List.range k).map fun s => D.rat (mean (csOf k rays pts) s)))) (a10 := y10) (a11 := y11) (a12 := y12) (a14 := y14) (a15 := y15) (a16 := y16) (pts ++ csOf k rays pts ++ [meanP k (csOf k rays pts)] ++ more) none none (fun p hp => by
    rcases List.mem_append.mp hp with z | z
    · exact (hall p z).1
    · exact (hm.ok p z).mono (by decide))
  have es : srcSeq xPts (SG rays ptss i pts k none (some (.chg ((List.range k).map (widD (csOf k rays pts))))) (some (.chg ((List.range k).map fun s => D.rat (mean (csOf k rays pts) s)))) y10 y11 y12 none y14 y15 y16 none) w = some (.ok ((pts ++ csOf k rays pts ++ [meanP k (csOf k rays pts)] ++ more).map D.pt) w') := by
    unfold srcSeq
    rw [xp]; rfl
  refine (sc_nx (for_of es e8)).trans ?_
  -- none of them is out
  have xs' : ∀ a13 a17, xSome (SG rays ptss i pts k none (some (.chg ((List.range k).map (widD (csOf k rays pts))))) (some (.chg ((List.range k).map fun s => D.rat (mean (csOf k rays pts) s)))) y10 y11 y12 a13 y14 y15 y16 a17) w' = some (.ok (.lst ((pts ++ csOf k rays pts ++ [meanP k (csOf k rays pts)]).map D.pt)) w') := fun a13 a17 => by
    have b1 : boF .add (.lst (pts.map D.pt)) (.lst ((csOf k rays pts).map D.pt)) = some (.lst (pts.map D.pt ++ (csOf k rays pts).map D.pt)) := bo_cat (by rw [List.length_map, List.length_map]; omega)
    have b2 : boF .add (.lst (pts.map D.pt ++ (csOf k rays pts).map D.pt)) (.lst [D.pt (meanP k (csOf k rays pts))]) = some (.lst (pts.map D.pt ++ (csOf k rays pts).map D.pt ++ [D.pt (meanP k (csOf k rays pts))])) := bo_cat (by rw [List.length_append, List.length_map, List.length_map]; simp; omega)
    rw [List.map_append, List.map_append]
    refine bin_ok (bin_ok (u := .lst (pts.map D.pt)) (v := .lst ((csOf k rays pts).map D.pt)) rfl rfl b1) (lst_ok (ds := [D.pt (meanP k (csOf k rays pts))]) ?_ small1) b2
    rw [← em]; rfl
  have xo : xOut (SG rays ptss i pts k none (some (.chg ((List.range k).map (widD (csOf k rays pts))))) (some (.chg ((List.range k).map fun s => D.rat (mean (csOf k rays pts) s)))) y10 y11 y12 b13 y14 y15 y16 b17) w' = some (.ok (.lst []) w') := by
    have := comp_ofF (σ := SG rays ptss i pts k none (some (.chg ((List.range k).map (widD (csOf k rays pts))))) (some (.chg ((List.range k).map fun s => D.rat (mean (csOf k rays pts) s)))) y10 y11 y12 b13 y14 y15 y16 b17) (own := [13]) (t := .nm 13) (s := srcSeq xSome) (c := tnot (xtru xWit)) (e := xvar 13) (w := w') (pts ++ csOf k rays pts ++ [meanP k (csOf k rays pts)]) D.pt (fun _ => false) D.pt (by
      unfold srcSeq
      rw [xs']; rfl) (fun p hp => by
      have e := in_pt V hi (hall p hp).1 w' (a7 := none) (a8 := some (.chg ((List.range k).map (widD (csOf k rays pts))))) (a9 := some (.chg ((List.range k).map fun s => D.rat (mean (csOf k rays pts) s)))) (a10 := y10) (a11 := y11) (a12 := y12) (a14 := y14) (a15 := y15) (a16 := y16) (a17 := b17)
      rw [(hall p hp).2] at e
      exact ⟨SG rays ptss i pts k none (some (.chg ((List.range k).map (widD (csOf k rays pts))))) (some (.chg ((List.range k).map fun s => D.rat (mean (csOf k rays pts) s)))) y10 y11 y12 (some (.val (D.pt p))) y14 y15 y16 b17, rfl, not_ok (tru_ok e), fun z => nomatch z⟩) (by simp only [List.length_append, List.length_cons, List.length_nil]; omega)
    have ef : (pts ++ csOf k rays pts ++ [meanP k (csOf k rays pts)]).filter (fun _ => false) = [] := List.filter_eq_nil_iff.mpr fun _ _ => by simp
    rw [ef] at this
    exact this
  exact sc_rt (ret_ok (cmp_ok xo (lst_ok (ds := []) rfl small0) (eq_nil [])))
end
end Rh
set_option Elab.async false
set_option linter.all false
set_option maxRecDepth 100000
set_option maxHeartbeats 4000000
/-! Rh: what is refused. -/
namespace Rh
open PySem L2
theorem pick_ok {l : List D} {w : Pn} {m : Nat} (P : PnOk (m + 1) w) (h0 : l ≠ []) (hl : l.length ≤ 1000) : ∃ x w', x ∈ l ∧ law_pickF [.pen, .lst l] w = some (.ok x w') ∧ PnOk m w' := by
  have hp : 0 < l.length := List.length_pos_iff.mpr h0
  obtain ⟨d, w', e, h1, h2, P'⟩ := draw_ok (many := (l.length : Int)) P (by omega) (by omega)
  obtain ⟨n, rfl⟩ : ∃ n : Nat, d = (n : Int) := ⟨d.toNat, by omega⟩
  have hn : n < l.length := by omega
  have g : idxF (.lst l) (.int (n : Int)) = some l[n] := at_nat (List.getElem?_eq_getElem hn) (by omega)
  refine ⟨l[n], w', List.getElem_mem _, fn_rt rfl ?_, P'⟩
  unfold law_pickB
  exact sc_rt (ret_ok (idx_ok (u := .lst l) rfl (call_ok (args_c (d := .pen) rfl (args_1 (bui_ok (args_1 (d := .lst l) rfl) (bu_lenL l)))) e) g))
theorem pick_call {e : XF} {l : List D} {σ : En} {w w1 : Pn} {m : Nat} (h : e (some (.val .pen) :: σ) w = some (.ok (.lst l) w1)) (P : PnOk (m + 1) w1) (h0 : l ≠ []) (hl : l.length ≤ 1000) : ∃ x w', x ∈ l ∧ xcall law_pickF (acons (xvar 0) (acons e anil)) (some (.val .pen) :: σ) w = some (.ok x w') ∧ PnOk m w' := by
  obtain ⟨x, w', hx, e2, P'⟩ := pick_ok P h0 hl
  exact ⟨x, w', hx, call_ok (args_c rfl (args_1 h)) e2, P'⟩
theorem rep_flat {α : Type} (t : α) : ∀ n : Nat, (List.replicate n [t]).flatten = List.replicate n t
  | 0 => rfl
  | n + 1 => by rw [List.replicate_succ, List.flatten_cons, rep_flat t n, List.replicate_succ]; rfl
theorem mul1 {β : Type} {t : D} {l : List β} (h : l.length ≤ 1000) : boF .mul (.lst [t]) (.int ((l.length : Nat) : Int)) = some (.lst (l.map fun _ => t)) := by
  show (if (decide ((0 : Int) ≤ ((l.length : Nat) : Int)) && decide (((l.length : Nat) : Int) < 1000000) && small ([t].length * ((l.length : Nat) : Int).toNat)) = true then some (D.lst (List.replicate ((l.length : Nat) : Int).toNat [t]).flatten) else none) = _
  have c1 : decide ((0 : Int) ≤ ((l.length : Nat) : Int)) = true := decide_eq_true (by omega)
  have c2 : decide (((l.length : Nat) : Int) < 1000000) = true := decide_eq_true (by omega)
  have c3 : small ([t].length * ((l.length : Nat) : Int).toNat) = true := small_le (by rw [Int.toNat_natCast]; simp; omega)
  rw [c1, c2, c3, Int.toNat_natCast, rep_flat, List.map_const']
  rfl
theorem heard_ex {e : XF} {σ : En} {w w1 : Pn} {d : D} (h : e σ w = some (.ex 1 d w1)) : xheard e σ w = some (.ok (.tup [.str "value", d]) w1) := by unfold xheard; rw [h]; rfl
theorem heard_ex0 {e : XF} {σ : En} {w w1 : Pn} {d : D} (h : e σ w = some (.ex 0 d w1)) : xheard e σ w = some (.ok (.tup [.str "number", d]) w1) := by unfold xheard; rw [h]; rfl
theorem xrev_ok {e : XF} {σ : En} {w w1 : Pn} {l : List D} (h : e σ w = some (.ok (.tup l) w1)) : xrev e σ w = some (.ok (.tup l.reverse) w1) := by unfold xrev; rw [h]; rfl
def vH : D := .tup [.str "value", .str "held"]
def nG : D := .tup [.str "number", .str "guess"]
def vP : D := .tup [.str "value", .str "point"]
/-! the pieces of the def -/
def rRay : XF := xvar 2
def r01 : XF := xtup (acons (xcst (.int 0)) (acons (xcst (.int 1)) (anil)))
def rBad : XF := xlst (acons (xcst .non) (acons (xcst (.int 5)) (acons (xfld (xvar 1) 1 1) (acons (xpaper (fixedF 8) (xcst (.str "lots")) (xfld (xvar 1) 1 2) (xfld (xvar 1) 1 3)) (acons (xlots (fixedF 8) (xvar 2) (xtup (anil))) (acons (xlots (fixedF 8) (xtup (anil)) (xtup (anil))) (acons (xlots (fixedF 8) (xvar 2) (xcst .non)) (acons (xlots (fixedF 8) (xvar 2) (xlst (acons (xlst (acons r01 (anil))) (anil)))) (acons (xlots (fixedF 8) (xlst (acons (xtup (acons (xcst (.int 1)) (acons (xcst (.int 0)) (acons (xcst (.int 0)) (anil))))) (anil))) (xlst (acons (xlst (acons r01 (anil))) (anil)))) (acons (xlots (fixedF 8) (xvar 2) (xlst (acons (xbin .mul (xlst (acons (xtup (acons (xneg (xcst (.int 5))) (acons (xcst (.int 1)) (anil)))) (anil))) (xbui .len (acons (xvar 2) anil))) (anil)))) (anil)))))))))))
def rMore : XF := xlst (acons (xlots (fixedF 8) (xrev (xvar 2)) (xfld (xvar 1) 1 3)) (acons (xlots (fixedF 8) (xvar 2) (xlst (acons (xbin .mul (xlst (acons (xtup (acons (xcst (.int 0)) (acons (xcst (.int 2)) (anil)))) (anil))) (xbui .len (acons (xvar 2) anil))) (anil)))) (acons (xlots (fixedF 8) (xvar 2) (xlst (acons (xbin .mul (xlst (acons r01 (anil))) (xbui .len (acons (xvar 2) anil))) (acons (xcst .non) (anil))))) (anil))))
def rOdd : XF := xlst (acons (xcst .non) (acons (xneg (xcst (.int 1))) (acons (xvar 3) (acons (xcst (.str "0")) (acons (xcst (.bl true)) (anil))))))
def rFar : XF := xlst (acons (xcst .non) (acons (xcst (.int 5)) (acons (xbin .mul (xlst (acons r01 (anil))) (xbin .add (xvar 4) (xcst (.int 1)))) (acons (xbin .mul (xlst (acons (xtup (acons (xcst (.int 2)) (acons (xcst (.int 4)) (anil)))) (anil))) (xvar 4)) (acons (xbin .mul (xlst (acons (xtup (acons (xcst (.int 1)) (acons (xcst (.int 0)) (anil)))) (anil))) (xvar 4)) (acons (xbin .mul (xlst (acons (xcst (.int 0)) (anil))) (xvar 4)) (acons (xbin .mul (xlst (acons (xtup (acons (xcst (.bl true)) (acons (xcst (.int 1)) (anil)))) (anil))) (xvar 4)) (acons (xbin .mul (xlst (acons (xtup (acons (xcst (.str "0")) (acons (xcst (.int 1)) (anil)))) (anil))) (xvar 4)) (acons (xdic) (anil))))))))))
def rH1 : XF := xlst (acons (xheard (xcall is_inF (acons (xvar 6) (acons (xvar 7) (acons (xvar 8) (anil)))))) (acons (xheard (xcall cornersF (acons (xvar 6) (acons (xvar 7) (anil))))) (acons (xheard (xcall widthsF (acons (xvar 6) (acons (xvar 7) (anil))))) (anil))))
def rH2 : XF := xlst (acons (xheard (xcall middleF (acons (xvar 6) (acons (xvar 7) (anil))))) (acons (xheard (xcall is_inF (acons (xvar 1) (acons (xvar 7) (acons (xvar 8) (anil)))))) (acons (xheard (xcall cornersF (acons (xvar 1) (acons (xvar 7) (anil))))) (anil))))
def rH3 : XF := xlst (acons (xheard (xcall widthsF (acons (xvar 1) (acons (xvar 7) (anil))))) (acons (xheard (xcall middleF (acons (xvar 1) (acons (xvar 7) (anil))))) (acons (xheard (xcall is_inF (acons (xvar 1) (acons (xcst (.int 0)) (acons (xvar 8) (anil)))))) (anil))))
def rDue : XF := xbin .add (xbin .add (xbin .mul (xlst (acons (xtup (acons (xcst (.str "value")) (acons (xcst (.str "held")) (anil)))) (anil))) (xcst (.int 4))) (xbin .mul (xlst (acons (xtup (acons (xcst (.str "number")) (acons (xcst (.str "guess")) (anil)))) (anil))) (xcst (.int 4)))) (xlst (acons (xtup (acons (xcst (.str "value")) (acons (xcst (.str "point")) (anil)))) (anil)))
theorem refusedB_eq : law_refused_rightB = scons (spar3 2 3 4 (xfld (xvar 1) 1 2) (xbui .len (acons (xfld (xvar 1) 1 3) anil)) (xbui .len (acons (xidx (xfld (xvar 1) 1 2) (xcst (.int 0))) anil))) (scons (sasg (.nm 5) rBad) (scons (sasg (.tp [6, 7]) (xtup (acons (xcall law_pickF (acons (xvar 0) (acons (xbin .add (xvar 5) rMore) (anil)))) (acons (xcall law_pickF (acons (xvar 0) (acons rOdd (anil)))) (anil))))) (scons (sasg (.nm 8) (xcall law_pickF (acons (xvar 0) (acons rFar (anil))))) (scons (sasg (.nm 9) rH1) (scons (sasg (.nm 9) (xbin .add (xvar 9) rH2)) (scons (sasg (.nm 9) (xbin .add (xvar 9) rH3)) (scons (sret (xcmp .eq (xvar 9) rDue)) (snil)))))))) := rfl
section
variable {k : Nat} {rays : List (List Int)} {ptss : List (List (List Rat))}
theorem Val.fixR (V : Val k rays ptss) : fixV 7 (.tup (rays.map D.ray)) = some (.tup (rays.map D.ray)) := fix_tup (fun r hr => fix_ray (by rw [(V.K.rok r hr).len]; rcases V.K.k12 with h | h <;> omega)) (by have := V.K.n7; omega)
theorem Val.fixR' (V : Val k rays ptss) : fixV 7 (.tup (rays.reverse.map D.ray)) = some (.tup (rays.reverse.map D.ray)) := fix_tup (fun r hr => fix_ray (by rw [(V.K.rok r (List.mem_reverse.mp hr)).len]; rcases V.K.k12 with h | h <;> omega)) (by rw [List.length_reverse]; have := V.K.n7; omega)
theorem Val.fixN (V : Val k rays ptss) : fixV 7 (rowsD (ptss.map (rowOf rays))) = some (rowsD (ptss.map (rowOf rays))) := by
  refine fix_tup (h := fun (row : List Rat) => .tup (row.map D.rat)) (g := fun (row : List Rat) => .tup (row.map D.rat)) (fun row hrow => fix_tup (fun q _ => fix_rat q) ?_) (by rw [List.length_map]; have := V.hl; omega)
  obtain ⟨pts, _, rfl⟩ := List.mem_map.mp hrow
  rw [rowOf_len]; have := V.K.n7; omega
def badL (rays : List (List Int)) (ptss : List (List (List Rat))) : List D := [.non, .int 5, .tup [.tup (rays.map D.ray), rowsD (ptss.map (rowOf rays))], .ins 0 [.str "lots", .tup [.tup (rays.map D.ray), rowsD (ptss.map (rowOf rays))]], vLots (.tup (rays.map D.ray)) (.tup []), vLots (.tup []) (.tup []), vLots (.tup (rays.map D.ray)) .non, vLots (.tup (rays.map D.ray)) (.tup [.tup [D.rat 0]]), vLots (.tup [D.ray [1, 0, 0]]) (.tup [.tup [D.rat 0]]), vLots (.tup (rays.map D.ray)) (rowsD [rays.map fun _ => m5])]
def moreL (rays : List (List Int)) (ptss : List (List (List Rat))) : List D := [vLots (.tup (rays.reverse.map D.ray)) (rowsD (ptss.map (rowOf rays))), vLots (.tup (rays.map D.ray)) (.tup [.tup (rays.map fun _ => .tup [.int 0, .int 2])]), vLots (.tup (rays.map D.ray)) (.tup [.tup (rays.map fun _ => D.rat 0), .non])]
theorem bad_all (V : Val k rays ptss) : ∀ d ∈ badL rays ptss ++ moreL rays ptss, ∀ w, is_formedF [d] w = some (.ok (.bl false) w) := by
  have K := V.K
  refine List.forall_mem_append.mpr ⟨?_, ?_⟩
  · refine List.forall_mem_cons.mpr ⟨fun w => formed_not w rfl, List.forall_mem_cons.mpr ⟨fun w => formed_not w rfl, List.forall_mem_cons.mpr ⟨fun w => formed_not w rfl, List.forall_mem_cons.mpr ⟨fun w => formed_not w rfl, List.forall_mem_cons.mpr ⟨fun w => bad_empty K w, List.forall_mem_cons.mpr ⟨fun w => formed_none _ w, List.forall_mem_cons.mpr ⟨fun w => bad_none K w, List.forall_mem_cons.mpr ⟨fun w => bad_short K w, List.forall_mem_cons.mpr ⟨fun w => bad_three _ w, List.forall_mem_cons.mpr ⟨fun w => bad_flat K w, fun _ h => nomatch h⟩⟩⟩⟩⟩⟩⟩⟩⟩⟩
  · exact List.forall_mem_cons.mpr ⟨fun w => bad_rev K _ w, List.forall_mem_cons.mpr ⟨fun w => bad_two K w, List.forall_mem_cons.mpr ⟨fun w => bad_mix K w, fun _ h => nomatch h⟩⟩⟩
abbrev RG (k : Nat) (rays : List (List Int)) (ptss : List (List (List Rat))) (a5 a6 a7 a8 a9 : Option Sl) : En := [some (.val .pen), some (.val (valD rays ptss)), some (.val (.tup (rays.map D.ray))), some (.val (.int (ptss.length : Int))), some (.val (.int (k : Int))), a5, a6, a7, a8, a9]
theorem rBad_ok (V : Val k rays ptss) (w : Pn) : rBad (RG k rays ptss none none none none none) w = some (.ok (.lst (badL rays ptss)) w) := by
  have h7 := V.K.n7
  have x2 : xvar 2 (RG k rays ptss none none none none none) w = some (.ok (.tup (rays.map D.ray)) w) := rfl
  have xn : xbui .len (acons (xvar 2) anil) (RG k rays ptss none none none none none) w = some (.ok (.int (rays.length : Int)) w) := bui_ok (args_1 (d := .tup (rays.map D.ray)) rfl) (by rw [bu_lenT, List.length_map])
  have f1 : xpaper (fixedF 8) (xcst (.str "lots")) (xfld (xvar 1) 1 2) (xfld (xvar 1) 1 3) (RG k rays ptss none none none none none) w = some (.ok (.ins 0 [.str "lots", .tup [.tup (rays.map D.ray), rowsD (ptss.map (rowOf rays))]]) w) := by
    have h : fixV 8 (.tup [.tup (rays.map D.ray), rowsD (ptss.map (rowOf rays))]) = some (.tup [.tup (rays.map D.ray), rowsD (ptss.map (rowOf rays))]) := by
      rw [fixV, fixL, V.fixR]
      simp only []
      rw [if_pos (show small (([] : List D).length + 1) = true from small1), fixL, V.fixN]
      rfl
    show mkPaperF (fixedF 8) (.str "lots") (.tup (rays.map D.ray)) (rowsD (ptss.map (rowOf rays))) w = _
    unfold mkPaperF
    rw [fixed_of h]
  have e0 : xtup anil (RG k rays ptss none none none none none) w = some (.ok (.tup []) w) := tup_ok (ds := []) rfl small0
  have e01 : r01 (RG k rays ptss none none none none none) w = some (.ok (D.rat 0) w) := tup_ok (ds := [.int 0, .int 1]) rfl small2
  have e11 : xlst (acons (xlst (acons r01 (anil))) (anil)) (RG k rays ptss none none none none none) w = some (.ok (.lst [.lst [D.rat 0]]) w) := lst_ok (args_1 (lst_ok (args_1 e01) small1)) small1
  have e100 : xlst (acons (xtup (acons (xcst (.int 1)) (acons (xcst (.int 0)) (acons (xcst (.int 0)) (anil))))) (anil)) (RG k rays ptss none none none none none) w = some (.ok (.lst [D.ray [1, 0, 0]]) w) := lst_ok (args_1 (tup_ok (ds := [.int 1, .int 0, .int 0]) rfl small3)) small1
  have em : xlst (acons (xbin .mul (xlst (acons (xtup (acons (xneg (xcst (.int 5))) (acons (xcst (.int 1)) (anil)))) (anil))) (xbui .len (acons (xvar 2) anil))) (anil)) (RG k rays ptss none none none none none) w = some (.ok (.lst [.lst (rays.map fun _ => D.rat m5)]) w) :=
    lst_ok (args_1 (bin_ok (lst_ok (args_1 (tup_ok (ds := [.int (-5), .int 1]) rfl small2)) small1) xn (mul1 (by omega)))) small1
  have fm : fixV 7 (.lst [.lst (rays.map fun _ => D.rat m5)]) = some (rowsD [rays.map fun _ => m5]) := by
    have : rowsD [rays.map fun _ => m5] = .tup [.tup (rays.map fun _ => D.rat m5)] := by
      show D.tup [.tup ((rays.map fun _ => m5).map D.rat)] = _
      rw [List.map_map]; rfl
    rw [this]
    exact fix_lst (l := [()]) (h := fun _ => .lst (rays.map fun _ => D.rat m5)) (g := fun _ => .tup (rays.map fun _ => D.rat m5)) (fun _ _ => fix_lst (fun _ _ => fix_rat m5) (by omega)) (by simp)
  have f11 : fixV 7 (.lst [.lst [D.rat 0]]) = some (.tup [.tup [D.rat 0]]) := rfl
  have f100 : fixV 7 (.lst [D.ray [1, 0, 0]]) = some (.tup [D.ray [1, 0, 0]]) := rfl
  exact lst_ok (args_c rfl (args_c rfl (args_c (d := .tup [.tup (rays.map D.ray), rowsD (ptss.map (rowOf rays))]) rfl (args_c f1 (args_c (lots_ok2 x2 e0 V.fixR rfl) (args_c (lots_ok2 e0 e0 rfl rfl) (args_c (lots_ok2 x2 rfl V.fixR rfl) (args_c (lots_ok2 x2 e11 V.fixR f11) (args_c (lots_ok2 e100 e11 f100 f11) (args_1 (lots_ok2 x2 em V.fixR fm)))))))))) ) (small_le (by show (10 : Nat) ≤ 1000000; decide))
theorem rMore_ok (V : Val k rays ptss) {a5 a6 a7 a8 a9 : Option Sl} (w : Pn) : rMore (RG k rays ptss a5 a6 a7 a8 a9) w = some (.ok (.lst (moreL rays ptss)) w) := by
  have h7 := V.K.n7
  have x2 : xvar 2 (RG k rays ptss a5 a6 a7 a8 a9) w = some (.ok (.tup (rays.map D.ray)) w) := rfl
  have xn : xbui .len (acons (xvar 2) anil) (RG k rays ptss a5 a6 a7 a8 a9) w = some (.ok (.int (rays.length : Int)) w) := bui_ok (args_1 (d := .tup (rays.map D.ray)) rfl) (by rw [bu_lenT, List.length_map])
  have xv : xrev (xvar 2) (RG k rays ptss a5 a6 a7 a8 a9) w = some (.ok (.tup (rays.reverse.map D.ray)) w) := by
    rw [List.map_reverse]
    exact xrev_ok x2
  have e2 : xlst (acons (xbin .mul (xlst (acons (xtup (acons (xcst (.int 0)) (acons (xcst (.int 2)) (anil)))) (anil))) (xbui .len (acons (xvar 2) anil))) (anil)) (RG k rays ptss a5 a6 a7 a8 a9) w = some (.ok (.lst [.lst (rays.map fun _ => .tup [.int 0, .int 2])]) w) :=
    lst_ok (args_1 (bin_ok (lst_ok (args_1 (tup_ok (ds := [.int 0, .int 2]) rfl small2)) small1) xn (mul1 (by omega)))) small1
  have e3 : xlst (acons (xbin .mul (xlst (acons r01 (anil))) (xbui .len (acons (xvar 2) anil))) (acons (xcst .non) (anil))) (RG k rays ptss a5 a6 a7 a8 a9) w = some (.ok (.lst [.lst (rays.map fun _ => D.rat 0), .non]) w) :=
    lst_ok (args_c (bin_ok (lst_ok (args_1 (tup_ok (ds := [.int 0, .int 1]) rfl small2)) small1) xn (mul1 (t := D.rat 0) (by omega))) (args_1 rfl)) small2
  have f2 : fixV 7 (.lst [.lst (rays.map fun _ => .tup [.int 0, .int 2])]) = some (.tup [.tup (rays.map fun _ => .tup [.int 0, .int 2])]) :=
    fix_lst (l := [()]) (h := fun _ => .lst (rays.map fun _ => .tup [.int 0, .int 2])) (g := fun _ => .tup (rays.map fun _ => .tup [.int 0, .int 2])) (fun _ _ => fix_lst (fun _ _ => rfl) (by omega)) (by simp)
  have f3 : fixV 7 (.lst [.lst (rays.map fun _ => D.rat 0), .non]) = some (.tup [.tup (rays.map fun _ => D.rat 0), .non]) :=
    fix_lst (l := [true, false]) (h := fun b => if b = true then .lst (rays.map fun _ => D.rat 0) else .non) (g := fun b => if b = true then .tup (rays.map fun _ => D.rat 0) else .non) (fun b _ => by
      cases b with
      | true => exact fix_lst (fun _ _ => fix_rat 0) (by omega)
      | false => rfl) (by simp)
  exact lst_ok (args_c (lots_ok2 xv (y := rowsD (ptss.map (rowOf rays))) rfl V.fixR' V.fixN) (args_c (lots_ok2 x2 e2 V.fixR f2) (args_1 (lots_ok2 x2 e3 V.fixR f3)))) small3
theorem odd_all (m : Int) : ∀ d ∈ [D.non, .int (-1), .int m, .str "0", .bl true], ∀ w, need_numberF [d, .str "guess", .int 0, .int (m - 1)] w = some (.ex 0 (.str "guess") w) :=
  List.forall_mem_cons.mpr ⟨fun _ => odd_non, List.forall_mem_cons.mpr ⟨fun _ => odd_int (by omega), List.forall_mem_cons.mpr ⟨fun _ => odd_int (by omega), List.forall_mem_cons.mpr ⟨fun _ => odd_str, List.forall_mem_cons.mpr ⟨fun _ => odd_bl, fun _ h => nomatch h⟩⟩⟩⟩⟩
def farL (k : Nat) : List D := [.non, .int 5, .lst (List.replicate (k + 1) (.tup [.int 0, .int 1])), .lst (List.replicate k (.tup [.int 2, .int 4])), .lst (List.replicate k (.tup [.int 1, .int 0])), .lst (List.replicate k (.int 0)), .lst (List.replicate k (.tup [.bl true, .int 1])), .lst (List.replicate k (.tup [.str "0", .int 1])), .dic0]
theorem far_all (h : k = 1 ∨ k = 2) : ∀ d ∈ farL k, ∀ w, are_fractionsF [d, .int (k : Int)] w = some (.ok (.bl false) w) := by
  rcases h with rfl | rfl
  · exact List.forall_mem_cons.mpr ⟨fun _ => rfl, List.forall_mem_cons.mpr ⟨fun _ => rfl, List.forall_mem_cons.mpr ⟨fun _ => rfl, List.forall_mem_cons.mpr ⟨fun _ => rfl, List.forall_mem_cons.mpr ⟨fun _ => rfl, List.forall_mem_cons.mpr ⟨fun _ => rfl, List.forall_mem_cons.mpr ⟨fun _ => rfl, List.forall_mem_cons.mpr ⟨fun _ => rfl, List.forall_mem_cons.mpr ⟨fun _ => rfl, fun _ h => nomatch h⟩⟩⟩⟩⟩⟩⟩⟩⟩
  · exact List.forall_mem_cons.mpr ⟨fun _ => rfl, List.forall_mem_cons.mpr ⟨fun _ => rfl, List.forall_mem_cons.mpr ⟨fun _ => rfl, List.forall_mem_cons.mpr ⟨fun _ => rfl, List.forall_mem_cons.mpr ⟨fun _ => rfl, List.forall_mem_cons.mpr ⟨fun _ => rfl, List.forall_mem_cons.mpr ⟨fun _ => rfl, List.forall_mem_cons.mpr ⟨fun _ => rfl, List.forall_mem_cons.mpr ⟨fun _ => rfl, fun _ h => nomatch h⟩⟩⟩⟩⟩⟩⟩⟩⟩
theorem rFar_ok (h : k = 1 ∨ k = 2) {a5 a6 a7 a8 a9 : Option Sl} (w : Pn) : rFar (RG k rays ptss a5 a6 a7 a8 a9) w = some (.ok (.lst (farL k)) w) := by
  have x4 : xvar 4 (RG k rays ptss a5 a6 a7 a8 a9) w = some (.ok (.int (k : Int)) w) := rfl
  have m1 : ∀ t : D, boF .mul (.lst [t]) (.int (k : Int)) = some (.lst (List.replicate k t)) := fun t => by
    rcases h with rfl | rfl <;> rfl
  have m2 : ∀ t : D, boF .mul (.lst [t]) (.int ((k : Int) + 1)) = some (.lst (List.replicate (k + 1) t)) := fun t => by
    rcases h with rfl | rfl <;> rfl
  exact lst_ok (args_c rfl (args_c rfl (args_c (bin_ok (lst_ok (args_1 (tup_ok (ds := [.int 0, .int 1]) rfl small2)) small1) (bin_ok x4 rfl (bo_add _ _)) (m2 _)) (args_c (bin_ok (lst_ok (args_1 (tup_ok (ds := [.int 2, .int 4]) rfl small2)) small1) x4 (m1 _)) (args_c (bin_ok (lst_ok (args_1 (tup_ok (ds := [.int 1, .int 0]) rfl small2)) small1) x4 (m1 _)) (args_c (bin_ok (lst_ok (ds := [.int 0]) rfl small1) x4 (m1 _)) (args_c (bin_ok (lst_ok (args_1 (tup_ok (ds := [.bl true, .int 1]) rfl small2)) small1) x4 (m1 _)) (args_c (bin_ok (lst_ok (args_1 (tup_ok (ds := [.str "0", .int 1]) rfl small2)) small1) x4 (m1 _)) (args_1 rfl))))))))) (small_le (by show (9 : Nat) ≤ 1000000; decide))
theorem pl_str (s : String) : Pl 0 (.str (Str.ofString s)) := ⟨.str (Str.ofString s), rfl, by rw [PyData.canLay0]; exact sOk_of s, by simp [PyData.depth]⟩
def dueL : List D := [vH, vH, vH, vH, nG, nG, nG, nG, vP]
theorem pl_due : Pl 2 (.lst dueL) := by
  have h1 : Pl 1 vH := pl_tup (List.forall_mem_cons.mpr ⟨pl_str _, List.forall_mem_cons.mpr ⟨pl_str _, fun _ h => nomatch h⟩⟩)
  have h2 : Pl 1 nG := pl_tup (List.forall_mem_cons.mpr ⟨pl_str _, List.forall_mem_cons.mpr ⟨pl_str _, fun _ h => nomatch h⟩⟩)
  have h3 : Pl 1 vP := pl_tup (List.forall_mem_cons.mpr ⟨pl_str _, List.forall_mem_cons.mpr ⟨pl_str _, fun _ h => nomatch h⟩⟩)
  refine pl_lst ?_
  exact List.forall_mem_cons.mpr ⟨h1, List.forall_mem_cons.mpr ⟨h1, List.forall_mem_cons.mpr ⟨h1, List.forall_mem_cons.mpr ⟨h1, List.forall_mem_cons.mpr ⟨h2, List.forall_mem_cons.mpr ⟨h2, List.forall_mem_cons.mpr ⟨h2, List.forall_mem_cons.mpr ⟨h2, List.forall_mem_cons.mpr ⟨h3, fun _ h => nomatch h⟩⟩⟩⟩⟩⟩⟩⟩⟩
theorem rDue_ok {σ : En} (w : Pn) : rDue σ w = some (.ok (.lst dueL) w) := rfl
theorem refused_ok (V : Val k rays ptss) (w : Pn) {m : Nat} (P : PnOk (3 + m) w) : ∃ w', law_refused_rightF [.pen, valD rays ptss] w = some (.ok (.bl true) w') ∧ PnOk m w' := by
  obtain ⟨r0, e0, el⟩ := V.len
  have h12 := V.K.k12
  have hl3 := V.hl
  have st : startE 10 [.pen, valD rays ptss] = [some (.val .pen), some (.val (valD rays ptss)), none, none, none, none, none, none, none, none] := rfl
  have e1 : spar3 2 3 4 (xfld (xvar 1) 1 2) (xbui .len (acons (xfld (xvar 1) 1 3) anil)) (xbui .len (acons (xidx (xfld (xvar 1) 1 2) (xcst (.int 0))) anil)) [some (.val .pen), some (.val (valD rays ptss)), none, none, none, none, none, none, none, none] w = some (.ok (.nx (RG k rays ptss none none none none none)) w) := by
    have y1 : xfld (xvar 1) 1 2 [some (.val .pen), some (.val (valD rays ptss)), none, none, none, none, none, none, none, none] w = some (.ok (.tup (rays.map D.ray)) w) := rfl
    have y2 : xbui .len (acons (xfld (xvar 1) 1 3) anil) [some (.val .pen), some (.val (valD rays ptss)), none, none, none, none, none, none, none, none] w = some (.ok (.int (ptss.length : Int)) w) := bui_ok (args_1 (d := rowsD (ptss.map (rowOf rays))) rfl) (by
      show some (D.int _) = _
      rw [List.length_map, List.length_map])
    have y3 : xbui .len (acons (xidx (xfld (xvar 1) 1 2) (xcst (.int 0))) anil) [some (.val .pen), some (.val (valD rays ptss)), none, none, none, none, none, none, none, none] w = some (.ok (.int (k : Int)) w) := bui_ok (args_1 (idx_ok y1 rfl e0)) el
    unfold spar3
    rw [y1, bnd_ok, y2, bnd_ok, y3, bnd_ok]
    rfl
  have x5 : xbin .add (xvar 5) rMore (RG k rays ptss (some (.val (.lst (badL rays ptss)))) none none none none) w = some (.ok (.lst (badL rays ptss ++ moreL rays ptss)) w) := bin_ok (u := .lst (badL rays ptss)) rfl (rMore_ok V w) (bo_cat (by show 10 + 3 ≤ 1000000; decide))
  obtain ⟨bad, w1, hb, p1, P1⟩ := pick_call (m := 2 + m) x5 (P.mono (by omega)) (List.append_ne_nil_of_left_ne_nil (List.cons_ne_nil _ _) _) (by rw [List.length_append]; show 10 + 3 ≤ 1000; decide)
  have x7 : rOdd (RG k rays ptss (some (.val (.lst (badL rays ptss)))) none none none none) w1 = some (.ok (.lst [.non, .int (-1), .int (ptss.length : Int), .str "0", .bl true]) w1) := lst_ok (ds := [.non, .int (-1), .int (ptss.length : Int), .str "0", .bl true]) rfl (small_le (by show 5 ≤ 1000000; decide))
  obtain ⟨odd, w2, ho, p2, P2⟩ := pick_call (m := 1 + m) x7 (P1.mono (by omega)) (fun z => nomatch z) (by show 5 ≤ 1000; decide)
  obtain ⟨far, w3, hf, p3, P3⟩ := pick_call (m := m) (rFar_ok (rays := rays) (ptss := ptss) (a5 := some (.val (.lst (badL rays ptss)))) (a6 := some (.val bad)) (a7 := some (.val odd)) (a8 := none) (a9 := none) h12 w2) (P2.mono (by omega)) (List.cons_ne_nil _ _) (by show 9 ≤ 1000; decide)
  have nb : ∀ g, need_lotsF [bad, g] w3 = some (.ex 1 (.str "held") w3) := fun g => need_bad (bad_all V bad hb w3)
  have no : need_lotsF [valD rays ptss, odd] w3 = some (.ex 0 (.str "guess") w3) := need_num (V.formed w3) (by
    have hlen : ((ptss.map (rowOf rays)).map fun row => D.tup (row.map D.rat)).length = ptss.length := by rw [List.length_map, List.length_map]
    rw [hlen]
    exact odd_all _ odd ho w3)
  have h0 : 0 < ptss.length := List.length_pos_iff.mpr V.h0
  have nf : is_inF [valD rays ptss, .int 0, far] w3 = some (.ex 1 (.str "point") w3) := is_in_far V (i := 0) h0 (far_all h12 far hf w3)
  refine ⟨w3, fn_rt rfl ?_, P3⟩
  rw [refusedB_eq, st]
  refine (sc_nx e1).trans ?_
  refine (sc_nx (asg_ok (rBad_ok V w) rfl)).trans ?_
  refine (sc_nx (asg_ok (tup_ok (args_c p1 (args_1 p2)) small2) rfl)).trans ?_
  refine (sc_nx (asg_ok p3 rfl)).trans ?_
  have H1 : ∀ a9, rH1 (RG k rays ptss (some (.val (.lst (badL rays ptss)))) (some (.val bad)) (some (.val odd)) (some (.val far)) a9) w3 = some (.ok (.lst [vH, vH, vH]) w3) := fun a9 =>
    lst_ok (args_c (heard_ex (call_ok (ds := [bad, odd, far]) rfl (is_in_ex (nb odd)))) (args_c (heard_ex (call_ok (ds := [bad, odd]) rfl (corners_ex (nb odd)))) (args_1 (heard_ex (call_ok (ds := [bad, odd]) rfl (widths_ex (nb odd))))))) small3
  have H2 : ∀ a9, rH2 (RG k rays ptss (some (.val (.lst (badL rays ptss)))) (some (.val bad)) (some (.val odd)) (some (.val far)) a9) w3 = some (.ok (.lst [vH, nG, nG]) w3) := fun a9 =>
    lst_ok (args_c (heard_ex (call_ok (ds := [bad, odd]) rfl (middle_ex (nb odd)))) (args_c (heard_ex0 (call_ok (ds := [valD rays ptss, odd, far]) rfl (is_in_ex no))) (args_1 (heard_ex0 (call_ok (ds := [valD rays ptss, odd]) rfl (corners_ex no)))))) small3
  have H3 : ∀ a9, rH3 (RG k rays ptss (some (.val (.lst (badL rays ptss)))) (some (.val bad)) (some (.val odd)) (some (.val far)) a9) w3 = some (.ok (.lst [nG, nG, vP]) w3) := fun a9 =>
    lst_ok (args_c (heard_ex0 (call_ok (ds := [valD rays ptss, odd]) rfl (widths_ex no))) (args_c (heard_ex0 (call_ok (ds := [valD rays ptss, odd]) rfl (middle_ex no))) (args_1 (heard_ex (call_ok (ds := [valD rays ptss, .int 0, far]) rfl nf))))) small3
  refine (sc_nx (asg_ok (H1 none) rfl)).trans ?_
  refine (sc_nx (asg_ok (bin_ok (u := .lst [vH, vH, vH]) rfl (H2 _) (bo_cat (by show 3 + 3 ≤ 1000000; decide))) rfl)).trans ?_
  refine (sc_nx (asg_ok (bin_ok (u := .lst ([vH, vH, vH] ++ [vH, nG, nG])) rfl (H3 _) (bo_cat (by show 6 + 3 ≤ 1000000; decide))) rfl)).trans ?_
  exact sc_rt (ret_ok (cmp_ok (u := .lst dueL) rfl (rDue_ok w3) (eqc_self pl_due (by decide))))
end
end Rh
set_option Elab.async false
set_option linter.all false
set_option maxRecDepth 100000
set_option maxHeartbeats 4000000
/-! Rh: the law, behind the pen. -/
namespace Rh
open PySem L2
def lRay1 : XF := xife (xtru (xcmp .eq (xvar 3) (xcst (.int 1)))) (xlst (acons (xtup (acons (xneg (xcst (.int 1))) (anil))) (acons (xtup (acons (xcst (.int 1)) (anil))) (anil)))) (xcall law_by_angleF (acons (xbin .add (xlst (acons (xtup (acons (xcst (.int 1)) (acons (xcst (.int 0)) (anil)))) (acons (xtup (acons (xcst (.int 0)) (acons (xcst (.int 1)) (anil)))) (acons (xtup (acons (xneg (xcst (.int 1))) (acons (xcst (.int 0)) (anil)))) (acons (xtup (acons (xcst (.int 0)) (acons (xneg (xcst (.int 1))) (anil)))) (anil)))))) (xcomp [2] (.nm 2) (srcRng1 (xcall law_drawF (acons (xvar 1) (acons (xcst (.int 4)) (anil))))) (tyes) eLow)) (anil)))
def lRay2 : XF := xife (tand (xtru (xcmp .eq (xvar 3) (xcst (.int 2)))) (xtru (xcmp .eq (xcall law_drawF (acons (xvar 1) (acons (xcst (.int 4)) (anil)))) (xcst (.int 0))))) (xlst (acons (xtup (acons (xcst (.int 2)) (acons (xcst (.int 1)) (anil)))) (acons (xtup (acons (xneg (xcst (.int 1))) (acons (xcst (.int 1)) (anil)))) (acons (xtup (acons (xneg (xcst (.int 1))) (acons (xneg (xcst (.int 3))) (anil)))) (anil))))) (xvar 4)
def lLots : XF := xcomp [6] (.nm 6) (srcRng1 (xbin .add (xcst (.int 1)) (xcall law_drawF (acons (xvar 1) (acons (xcst (.int 3)) (anil)))))) (tyes) (xcall law_pointsF (acons (xvar 1) (acons (xvar 3) (anil))))
def lRow : XF := xcomp [8] (.nm 8) (srcSeq (xvar 4)) (tyes) (xcall law_greatF (acons (xvar 8) (acons (xvar 9) (anil))))
def lVal : XF := xlots (fixedF 8) (xvar 4) (xcomp [9] (.nm 9) (srcSeq (xvar 5)) (tyes) lRow)
def lOne : SF := scons (site (tnot (xtru (xcall law_one_rightF (acons (xvar 1) (acons (xvar 7) (acons (xvar 6) (acons (xvar 9) (anil)))))))) (scons (sret (xcst (.bl false))) (snil)) (snil)) (snil)
def lTurn : SF := scons (sasg (.nm 3) (xbin .add (xcst (.int 1)) (xcall law_drawF (acons (xvar 1) (acons (xcst (.int 2)) (anil)))))) (scons (sasg (.nm 4) lRay1) (scons (sasg (.nm 4) lRay2) (scons (sasg (.nm 5) lLots) (scons (sasg (.nm 7) lVal) (scons (sfor (.tp [6, 9]) (srcEnum (xvar 5)) lOne) (scons (site (tnot (xtru (xcall law_refused_rightF (acons (xvar 1) (acons (xvar 7) (anil)))))) (scons (sret (xcst (.bl false))) (snil)) (snil)) (snil)))))))
theorem lawB_eq : lawB = scons (sfor (.nm 2) (srcRng1 (xcst (.int 4))) lTurn) (scons (sret (xcst (.bl true))) (snil)) := rfl
abbrev LG (a0 a2 a3 a4 a5 a6 a7 a8 a9 : Option Sl) : En := [a0, some (.val .pen), a2, a3, a4, a5, a6, a7, a8, a9]
def raysL (rays : List (List Int)) : D := .lst (rays.map D.ray)
theorem rng_draw {e : XF} {σ : En} {w w1 : Pn} {n : Nat} (h : e σ w = some (.ok (.int (n : Int)) w1)) (hn : n ≤ 1000) : srcRng1 e σ w = some (.ok ((List.range n).map fun (i : Nat) => D.int (i : Int)) w1) := by
  have hb := b62 (m := n) hn
  unfold srcRng1
  rw [h, bnd_ok]
  show (if bound62 (n : Int) = true then some (Out.ok ((List.range ((n : Int)).toNat).map fun (i : Nat) => D.int (0 + (i : Int))) w1) else none) = _
  rw [if_pos hb, Int.toNat_natCast]
  simp only [Int.zero_add]
theorem rng_len (n : Nat) : ((List.range n).map fun (i : Nat) => D.int (i : Int)).length = n := by rw [List.length_map, List.length_range]
section
variable {a0 a2 a3 a4 a5 a6 a7 a8 a9 : Option Sl} {m : Nat} {w : Pn}
theorem ray1_ok {k : Nat} (h12 : k = 1 ∨ k = 2) (P : PnOk (7 + m) w) : ∃ rays w', lRay1 (LG a0 a2 (some (.val (.int (k : Int)))) a4 a5 a6 a7 a8 a9) w = some (.ok (raysL rays) w') ∧ Kin k rays ∧ PnOk m w' := by
  rcases h12 with rfl | rfl
  · refine ⟨one2, w, ?_, .one, P.mono (by omega)⟩
    exact ife_ok (b := true) (w1 := w) rfl rfl
  · obtain ⟨d, w1, e1, h1, h2, P1⟩ := draw_call (a := xvar 1) (σ := LG a0 a2 (some (.val (.int ((2 : Nat) : Int)))) a4 a5 a6 a7 a8 a9) (w := w) (w1 := w) (m := 6 + m) (many := 4) rfl (P.mono (by omega)) (by decide) (by decide)
    obtain ⟨n, rfl⟩ : ∃ n : Nat, d = (n : Int) := ⟨d.toNat, by omega⟩
    have hr := rng_draw e1 (by omega)
    obtain ⟨es, w', e2, g1, g2, P2⟩ := comp_draw (own := [2]) (t := .nm 2) (e := eLow) (m := m) D.ray (fun r => r ∈ ext) 2 hr (P1.mono (by rw [rng_len]; omega)) (fun d hd w m P => by
      obtain ⟨r, w', e, hx, P'⟩ := low_draw (A := a0) (σ := [some (.val d), some (.val (.int ((2 : Nat) : Int))), a4, a5, a6, a7, a8, a9]) (w := w) (m := m) P
      exact ⟨_, r, w', rfl, e, hx, P'⟩) (by rw [rng_len]; omega)
    rw [rng_len] at g2
    have hray : ∀ r ∈ axes ++ es, rayB r = true := fun r hr => by
      rcases List.mem_append.mp hr with z | z
      · exact axes_ray r z
      · exact ext_ray r (g1 r z)
    have ba := law_by_angle_eq (rays := axes ++ es) w' hray (by rw [List.length_append]; show 4 + es.length ≤ 100; omega)
    refine ⟨(axes ++ es).foldl insD [], w', ?_, .two (fam_drawn g1 (by omega)), P2⟩
    have eax : ∀ w, xlst (acons (xtup (acons (xcst (.int 1)) (acons (xcst (.int 0)) (anil)))) (acons (xtup (acons (xcst (.int 0)) (acons (xcst (.int 1)) (anil)))) (acons (xtup (acons (xneg (xcst (.int 1))) (acons (xcst (.int 0)) (anil)))) (acons (xtup (acons (xcst (.int 0)) (acons (xneg (xcst (.int 1))) (anil)))) (anil))))) (LG a0 a2 (some (.val (.int ((2 : Nat) : Int)))) a4 a5 a6 a7 a8 a9) w = some (.ok (.lst (axes.map D.ray)) w) := fun w => rfl
    unfold lRay1
    have t : xtru (xcmp .eq (xvar 3) (xcst (.int 1))) (LG a0 a2 (some (.val (.int ((2 : Nat) : Int)))) a4 a5 a6 a7 a8 a9) w = some (.ok false w) := rfl
    refine ife_ok t ?_
    show xcall law_by_angleF _ _ w = _
    rw [List.map_append] at ba
    exact call_ok (args_1 (bin_ok (eax w) e2 (bo_cat (by rw [List.length_map, List.length_map]; show 4 + es.length ≤ 1000000; omega)))) ba
theorem ray2_ok {k : Nat} {rays : List (List Int)} (K : Kin k rays) (P : PnOk (1 + m) w) : ∃ rays' w', lRay2 (LG a0 a2 (some (.val (.int (k : Int)))) (some (.val (raysL rays))) a5 a6 a7 a8 a9) w = some (.ok (raysL rays') w') ∧ Kin k rays' ∧ PnOk m w' := by
  cases hK : K with
  | one => exact ⟨one2, w, ife_ok (b := false) (w1 := w) rfl rfl, .one, P.mono (by omega)⟩
  | two F =>
    obtain ⟨d, w1, e1, h1, h2, P1⟩ := draw_call (a := xvar 1) (σ := LG a0 a2 (some (.val (.int ((2 : Nat) : Int)))) (some (.val (raysL rays))) a5 a6 a7 a8 a9) (w := w) (w1 := w) (m := m) (many := 4) rfl (P.mono (by omega)) (by decide) (by decide)
    have t1 : xtru (xcmp .eq (xvar 3) (xcst (.int 2))) (LG a0 a2 (some (.val (.int ((2 : Nat) : Int)))) (some (.val (raysL rays))) a5 a6 a7 a8 a9) w = some (.ok true w) := rfl
    have t2 := tru_ok (cmp_ok (o := .eq) e1 (y := xcst (.int 0)) rfl (eqc_int d 0))
    by_cases c : d = 0
    · subst c
      refine ⟨[[2, 1], [-1, 1], [-1, -3]], w1, ife_ok (b := true) (w1 := w1) ((and_t t1).trans t2) rfl, .two fam_tri, P1⟩
    · have : (d == 0) = false := by rw [beq_eq_false_iff_ne]; exact c
      rw [this] at t2
      exact ⟨rays, w1, ife_ok (b := false) (w1 := w1) ((and_t t1).trans t2) rfl, .two F, P1⟩
def lotL (pts : List (List Rat)) : D := .lst (pts.map D.pt)
theorem lots_draw {k : Nat} {A4 : Option Sl} (h12 : k = 1 ∨ k = 2) (P : PnOk (52 + m) w) : ∃ ptss w', lLots (LG a0 a2 (some (.val (.int (k : Int)))) A4 a5 a6 a7 a8 a9) w = some (.ok (.lst (ptss.map lotL)) w') ∧ (∀ pts ∈ ptss, PtsOk k pts) ∧ ptss ≠ [] ∧ ptss.length ≤ 3 ∧ PnOk m w' := by
  obtain ⟨d, w1, e1, h1, h2, P1⟩ := draw_call (a := xvar 1) (σ := LG a0 a2 (some (.val (.int (k : Int)))) A4 a5 a6 a7 a8 a9) (w := w) (w1 := w) (m := 51 + m) (many := 3) rfl (P.mono (by omega)) (by decide) (by decide)
  have eb := bin_ok (o := .add) (x := xcst (.int 1)) (w := w) rfl e1 (bo_add 1 d)
  obtain ⟨n, hn⟩ : ∃ n : Nat, 1 + d = (n : Int) := ⟨(1 + d).toNat, by omega⟩
  rw [hn] at eb
  have hr := rng_draw eb (by omega)
  obtain ⟨ptss, w', e2, g1, g2, P2⟩ := comp_draw (own := [6]) (t := .nm 6) (e := xcall law_pointsF (acons (xvar 1) (acons (xvar 3) (anil)))) (m := m) lotL (PtsOk k) 17 hr (P1.mono (by rw [rng_len]; omega)) (fun d hd w m P => by
    obtain ⟨pts, w', e, hp, _, P'⟩ := points_ok (k := k) (m := m) h12 P
    exact ⟨LG a0 a2 (some (.val (.int (k : Int)))) A4 a5 (some (.val d)) a7 a8 a9, pts, w', rfl, call_ok (ds := [.pen, .int (k : Int)]) rfl e, hp, P'⟩) (by rw [rng_len]; omega)
  rw [rng_len] at g2
  exact ⟨ptss, w', e2, g1, fun z => by rw [z] at g2; simp at g2; omega, by omega, P2⟩
theorem val_ok {k : Nat} {rays : List (List Int)} {ptss : List (List (List Rat))} {A3 : Option Sl} (V : Val k rays ptss) : lVal (LG a0 a2 A3 (some (.val (raysL rays))) (some (.val (.lst (ptss.map lotL)))) a6 a7 a8 a9) w = some (.ok (valD rays ptss) w) := by
  have h7 := V.K.n7
  have hl := V.hl
  have e1 : xcomp [9] (.nm 9) (srcSeq (xvar 5)) (tyes) lRow (LG a0 a2 A3 (some (.val (raysL rays))) (some (.val (.lst (ptss.map lotL)))) a6 a7 a8 a9) w = some (.ok (.lst (ptss.map fun pts => .lst ((rowOf rays pts).map D.rat))) w) := by
    refine comp_of ptss lotL _ rfl (fun pts hpts => ⟨LG a0 a2 A3 (some (.val (raysL rays))) (some (.val (.lst (ptss.map lotL)))) a6 a7 a8 (some (.val (lotL pts))), rfl, ?_⟩) (by omega)
    have hp := V.hp pts hpts
    unfold rowOf
    rw [List.map_map]
    exact comp_of rays D.ray _ rfl (fun r hr => ⟨LG a0 a2 A3 (some (.val (raysL rays))) (some (.val (.lst (ptss.map lotL)))) a6 a7 (some (.val (D.ray r))) (some (.val (lotL pts))), rfl, call_ok (ds := [D.ray r, lotL pts]) rfl (law_great_eq V.K.k12 w (V.K.rok r hr) hp.ok hp.ne (by decide))⟩) (by omega)
  have f1 : fixV 7 (raysL rays) = some (.tup (rays.map D.ray)) := fix_lst (fun r hr => fix_ray (by rw [(V.K.rok r hr).len]; rcases V.K.k12 with h | h <;> omega)) (by omega)
  have f2 : fixV 7 (.lst (ptss.map fun pts => .lst ((rowOf rays pts).map D.rat))) = some (rowsD (ptss.map (rowOf rays))) := by
    unfold rowsD
    rw [List.map_map]
    exact fix_lst (fun pts _ => fix_lst (fun q _ => fix_rat q) (by rw [rowOf_len]; omega)) (by omega)
  exact lots_ok2 rfl e1 f1 f2
theorem one_loop {k : Nat} {rays : List (List Int)} {ptss : List (List (List Rat))} {A3 A4 A5 : Option Sl} (V : Val k rays ptss) : ∀ (l : List ((List (List Rat)) × Nat)) (w : Pn) (a6 a9 : Option Sl), (∀ x ∈ l, ptss[x.2]? = some x.1) → PnOk (17 * l.length + m) w →
    ∃ b6 b9 w', forL (.tp [6, 9]) lOne (l.map fun x => .tup [.int (x.2 : Int), lotL x.1]) (LG a0 a2 A3 A4 A5 a6 (some (.val (valD rays ptss))) a8 a9) w = some (.ok (.nx (LG a0 a2 A3 A4 A5 b6 (some (.val (valD rays ptss))) a8 b9)) w') ∧ PnOk m w'
  | [], w, a6, a9, _, P => ⟨a6, a9, w, rfl, by simpa using P⟩
  | x :: l, w, a6, a9, h, P => by
    rw [List.length_cons] at P
    obtain ⟨w1, e1, P1⟩ := one_right V (h x List.mem_cons_self) w (m := 17 * l.length + m) (P.mono (by omega))
    obtain ⟨b6, b9, w', e2, P2⟩ := one_loop V l w1 (some (.val (.int (x.2 : Int)))) (some (.val (lotL x.1))) (fun y hy => h y (List.mem_cons_of_mem _ hy)) P1
    refine ⟨b6, b9, w', ?_, P2⟩
    rw [List.map_cons, forL]
    have e3 : lOne (LG a0 a2 A3 A4 A5 (some (.val (.int (x.2 : Int)))) (some (.val (valD rays ptss))) a8 (some (.val (lotL x.1)))) w = some (.ok (.nx (LG a0 a2 A3 A4 A5 (some (.val (.int (x.2 : Int)))) (some (.val (valD rays ptss))) a8 (some (.val (lotL x.1))))) w1) := by
      unfold lOne
      exact (sc_nx ((if_no (not_ok (tru_ok (call_ok (ds := [.pen, valD rays ptss, .int (x.2 : Int), lotL x.1]) rfl e1)))).trans rfl)).trans rfl
    show bnd (lOne (LG a0 a2 A3 A4 A5 (some (.val (.int (x.2 : Int)))) (some (.val (valD rays ptss))) a8 (some (.val (lotL x.1)))) w) _ = _
    rw [e3, bnd_ok]
    exact e2
theorem turn_ok (P : PnOk (200 + m) w) : ∃ b3 b4 b5 b6 b7 b8 b9 w', lTurn (LG a0 a2 a3 a4 a5 a6 a7 a8 a9) w = some (.ok (.nx (LG a0 a2 b3 b4 b5 b6 b7 b8 b9)) w') ∧ PnOk m w' := by
  obtain ⟨d, w1, e1, h1, h2, P1⟩ := draw_call (a := xvar 1) (σ := LG a0 a2 a3 a4 a5 a6 a7 a8 a9) (w := w) (w1 := w) (m := 199 + m) (many := 2) rfl (P.mono (by omega)) (by decide) (by decide)
  have eb := bin_ok (o := .add) (x := xcst (.int 1)) (w := w) rfl e1 (bo_add 1 d)
  obtain ⟨k, hk⟩ : ∃ k : Nat, 1 + d = (k : Int) := ⟨(1 + d).toNat, by omega⟩
  have h12 : k = 1 ∨ k = 2 := by omega
  rw [hk] at eb
  obtain ⟨r1, w2, e2, K1, P2⟩ := ray1_ok (a0 := a0) (a2 := a2) (a4 := a4) (a5 := a5) (a6 := a6) (a7 := a7) (a8 := a8) (a9 := a9) (m := 150 + m) h12 (P1.mono (by omega))
  obtain ⟨rays, w3, e3, K, P3⟩ := ray2_ok (a0 := a0) (a2 := a2) (a5 := a5) (a6 := a6) (a7 := a7) (a8 := a8) (a9 := a9) (m := 149 + m) K1 (P2.mono (by omega))
  obtain ⟨ptss, w4, e4, g1, g2, g3, P4⟩ := lots_draw (a0 := a0) (a2 := a2) (A4 := some (.val (raysL rays))) (a5 := a5) (a6 := a6) (a7 := a7) (a8 := a8) (a9 := a9) (m := 60 + m) h12 (P3.mono (by omega))
  have V : Val k rays ptss := ⟨K, g1, g2, g3⟩
  have e5 := val_ok (a0 := a0) (a2 := a2) (A3 := some (.val (.int (k : Int)))) (a6 := a6) (a7 := a7) (a8 := a8) (a9 := a9) (w := w4) V
  have hz : ptss.zipIdx.length = ptss.length := List.length_zipIdx
  obtain ⟨b6, b9, w5, e6, P5⟩ := one_loop (a0 := a0) (a2 := a2) (A3 := some (.val (.int (k : Int)))) (A4 := some (.val (raysL rays))) (A5 := some (.val (.lst (ptss.map lotL)))) (a8 := a8) (m := 3 + m) V ptss.zipIdx w4 a6 a9 (fun x hx => by
    obtain ⟨pts, i⟩ := x
    have hx' := List.mem_zipIdx hx
    have hi : i < ptss.length := by omega
    have er : pts = ptss[i] := by have := hx'.2.2; simpa using this
    show ptss[i]? = some pts
    rw [er]; exact List.getElem?_eq_getElem hi) (P4.mono (by rw [hz]; omega))
  obtain ⟨w6, e7, P6⟩ := refused_ok V w5 (m := m) P5
  refine ⟨some (.val (.int (k : Int))), some (.val (raysL rays)), some (.val (.lst (ptss.map lotL))), b6, some (.val (valD rays ptss)), a8, b9, w6, ?_, P6⟩
  unfold lTurn
  refine (sc_nx (asg_ok eb rfl)).trans ?_
  refine (sc_nx (asg_ok e2 rfl)).trans ?_
  refine (sc_nx (asg_ok e3 rfl)).trans ?_
  refine (sc_nx (asg_ok e4 rfl)).trans ?_
  refine (sc_nx (asg_ok e5 rfl)).trans ?_
  have es : srcEnum (xvar 5) (LG a0 a2 (some (.val (.int (k : Int)))) (some (.val (raysL rays))) (some (.val (.lst (ptss.map lotL)))) a6 (some (.val (valD rays ptss))) a8 a9) w4 = some (.ok (ptss.zipIdx.map fun x => .tup [.int (x.2 : Int), lotL x.1]) w4) := by
    have : enumL (ptss.map lotL) = ptss.zipIdx.map fun x => .tup [.int (x.2 : Int), lotL x.1] := by
      unfold enumL
      rw [List.zipIdx_map, List.map_map]
      rfl
    rw [← this]; rfl
  refine (sc_nx (for_of es e6)).trans ?_
  exact (sc_nx ((if_no (not_ok (tru_ok (call_ok (ds := [.pen, valD rays ptss]) rfl e7)))).trans rfl)).trans rfl
end
theorem turns_ok {a0 : Option Sl} {m : Nat} : ∀ (l : List D) (w : Pn) (a2 a3 a4 a5 a6 a7 a8 a9 : Option Sl), PnOk (200 * l.length + m) w → ∃ b2 b3 b4 b5 b6 b7 b8 b9 w', forL (.nm 2) lTurn l (LG a0 a2 a3 a4 a5 a6 a7 a8 a9) w = some (.ok (.nx (LG a0 b2 b3 b4 b5 b6 b7 b8 b9)) w') ∧ PnOk m w'
  | [], w, a2, a3, a4, a5, a6, a7, a8, a9, P => ⟨a2, a3, a4, a5, a6, a7, a8, a9, w, rfl, by simpa using P⟩
  | d :: l, w, a2, a3, a4, a5, a6, a7, a8, a9, P => by
    rw [List.length_cons] at P
    obtain ⟨b3, b4, b5, b6, b7, b8, b9, w1, e1, P1⟩ := turn_ok (a0 := a0) (a2 := some (.val d)) (a3 := a3) (a4 := a4) (a5 := a5) (a6 := a6) (a7 := a7) (a8 := a8) (a9 := a9) (m := 200 * l.length + m) (w := w) (P.mono (by omega))
    obtain ⟨c2, c3, c4, c5, c6, c7, c8, c9, w', e2, P2⟩ := turns_ok l w1 (some (.val d)) b3 b4 b5 b6 b7 b8 b9 P1
    refine ⟨c2, c3, c4, c5, c6, c7, c8, c9, w', ?_, P2⟩
    rw [forL]
    show bnd (lTurn (LG a0 (some (.val d)) a3 a4 a5 a6 a7 a8 a9) w) _ = _
    rw [e1, bnd_ok]
    exact e2
/-- the law answers True -/
theorem lawB_true {a0 : Option Sl} {w : Pn} (P : PnOk 800 w) : ∃ w', lawB (LG a0 none none none none none none none none) w = some (.ok (.rt (.bl true)) w') := by
  have hr : srcRng1 (xcst (.int 4)) (LG a0 none none none none none none none none) w = some (.ok ((List.range 4).map fun (i : Nat) => D.int (i : Int)) w) := rng_draw (n := 4) rfl (by decide)
  obtain ⟨b2, b3, b4, b5, b6, b7, b8, b9, w', e, _⟩ := turns_ok (a0 := a0) (m := 0) ((List.range 4).map fun (i : Nat) => D.int (i : Int)) w none none none none none none none none (P.mono (by rw [rng_len]; decide))
  refine ⟨w', ?_⟩
  rw [lawB_eq]
  refine (sc_nx (for_of hr e)).trans ?_
  exact sc_rt rfl
end Rh
set_option Elab.async false
set_option linter.all false
set_option maxRecDepth 100000
set_option maxHeartbeats 4000000
/-! Rh: the pen is made. -/
namespace Rh
open PySem L2 PySem.Spec PyProof.Rows
section
variable {P : Program} {w : World} {K : PySem.W.Frag} {mg : Str → Option Value} {base : Heap} {T : Tx}
def spPen (K : PySem.W.Frag) : Sp := fun vs H Q _ => ∃ (a : Addr) (ns : List Int), vs = [.ref a] ∧ SqL K H a (ns.map V.int) ∧ ns.length ≤ 63 ∧
  ∀ (c p : Addr) (H' : Hp), Ext H H' → H c = none → H p = none → c ≠ p → H' c = some (.lst (ns.map V.int)) → H' p = some (.lst [.ref c, .int 0, .int 0]) → Q (.ref p) H'
theorem cut63 (xs : List V) (h : xs.length ≤ 63) : cutV xs none (some 63) = xs := by
  have e1 : HT.sIx xs.length 0 none = 0 := rfl
  have e2 : HT.sIx xs.length xs.length (some 63) = xs.length := by
    unfold HT.sIx
    simp
    omega
  unfold cutV
  rw [e1, e2, List.drop_zero, Nat.sub_zero, List.take_length]
theorem ok_pen (hF : FnAt K mg "_law_pen" (top 54)) (hi : mg "int" = none) : ∃ f fd, FnOk P w K mg base (L2.CX P w) 1 f fd ["script"] (spPen K) ∧ mg "_law_pen" = some (.ref f) ∧ PySem.W.keepIn K (.ref f) = true ∧ Binds K fd ["script"] [] := by
  obtain ⟨f, fd, F, hm⟩ := hF.ex
  have S : FnScope ["script", "cell"] ["script"] (defScope (top 54)) := ⟨rfl, rfl, rfl, by decide +kernel, rfl, by decide +kernel, by decide +kernel⟩
  refine ⟨f, fd, F.okX S (fun vs H Q E h => ?_) (fun cdv A outer s H vs Q E hr h => ⟨_, pss_one (ps_ret (pe_lst (pa_cons (pe_lc (own := [("cell", 1)]) (g := gName 1) (tt := tYes) rfl S.nd (pi_list (pe_slice sl_list (pv 0) po_none (po_some pe_int))) (blkOk_by (by kernel_rfl)) (fun _ _ _ _ _ => pg_name (i := 1) S.nd rfl (Or.inl rfl)) (fun _ _ _ _ _ => pts_nil) (fun _ _ _ _ _ => pe_callTy call_int1 rfl hi PyProof.Rows.boot_int (pa_cons (pv 1) pa_nil))) (pa_cons pe_int (pa_cons pe_int pa_nil))))), ?_⟩), hm, F.kp, F.binds fun _ _ _ _ _ _ us hl => match us, hl with | [_], _ => rfl⟩
  · obtain ⟨a, ns, rfl, _⟩ := h
    rfl
  · obtain ⟨a, ns, rfl, hS, hl, hQ⟩ := h
    have e63 := cut63 (ns.map V.int) (by rw [List.length_map]; exact hl)
    refine ⟨_, rfl, 63, rfl, a, ns.map V.int, rfl, hS, fun q hq => ?_⟩
    rw [e63]
    refine ⟨q, rfl, ⟨_, SqL.of upd_same⟩, fun D hD => ?_⟩
    have nD : q ≠ D := ne_of_none upd_same hD
    refine lc_list (a := q) (xs := ns.map V.int) (fun i H' => H' = upd (upd H q (.lst (ns.map V.int))) D (.lst ((ns.map V.int).take i))) (by rw [List.take_zero]) (fun i H' _ e => ?_) (fun i x H' hx e => ?_) fun H' e => ?_
    · subst e
      exact SqL.of (by rw [upd_ne nD]; exact upd_same)
    · subst e
      have hi' : i < ns.length := by
        have := (List.getElem?_eq_some_iff.mp hx).1
        rwa [List.length_map] at this
      obtain ⟨n, hn, rfl⟩ : ∃ n, ns[i]? = some n ∧ x = V.int n := by
        rw [List.getElem?_map, List.getElem?_eq_getElem hi'] at hx
        exact ⟨ns[i], List.getElem?_eq_getElem hi', (Option.some.inj hx).symm⟩
      refine ⟨rfl, ?_⟩
      unfold tYes
      refine Eq.mpr (if_pos rfl) ?_
      refine ⟨_, rfl, .inl ⟨n, rfl, _, upd_same, ?_, ?_⟩⟩
      · rw [List.length_take]
        have : sizeLine = 16777216 := sizeLine_eq
        rw [List.length_map]; omega
      · rw [upd_upd, List.take_succ, hx]
        rfl
    · subst e
      have et : (ns.map V.int).take (ns.map V.int).length = ns.map V.int := List.take_length
      rw [et]
      refine ⟨(by show 3 ≤ sizeLine; rw [sizeLine_eq]; decide), fun p hp => ?_⟩
      have nDp : D ≠ p := ne_of_none upd_same hp
      have nqp : q ≠ p := ne_of_none (show upd (upd H q (.lst (ns.map V.int))) D (.lst (ns.map V.int)) q = some _ by rw [upd_ne nD]; exact upd_same) hp
      have hDn : H D = none := by rw [upd_ne (Ne.symm nD)] at hD; exact hD
      have hpn : H p = none := by rw [upd_ne (Ne.symm nDp), upd_ne (Ne.symm nqp)] at hp; exact hp
      refine hQ D p _ (fun b o hb => ?_) hDn hpn nDp (by rw [upd_ne nDp]; exact upd_same) upd_same
      rw [upd_ne (ne_of_none hb hpn), upd_ne (ne_of_none hb hDn), upd_ne (ne_of_none hb hq)]
      exact hb
end
end Rh
set_option Elab.async false
set_option linter.all false
set_option maxRecDepth 100000
set_option maxHeartbeats 4000000
/-! Rh: the law, by its promise. -/
namespace Rh
open PySem L2 PySem.Spec PyProof.Rows
section
variable {P : Program} {w : World} {K : PySem.W.Frag} {mg : Str → Option Value} {base : Heap} {T : Tx}
def F1c (c : Addr) (l : List V) : Hp := fun b => if b = c then some (HO.lst l) else none
theorem f1_some {c b : Addr} {l : List V} {o : HO} (h : F1c c l b = some o) : b = c ∧ o = .lst l := by
  unfold F1c at h
  by_cases e : b = c
  · rw [if_pos e] at h; exact ⟨e, (Option.some.inj h).symm⟩
  · rw [if_neg e] at h; cases h
def spLawG (K : PySem.W.Frag) (T : Tx) : Sp := fun vs H Q _ => ∃ (a : Addr) (ns : List Int), vs = [.ref a] ∧ SqL K H a (ns.map V.int) ∧ ns.length ≤ 63 ∧ (∀ n ∈ ns, Sz bigN n) ∧ LamX.Tabs T.tb H ∧ ∀ H', Q (.bl true) H'
theorem law_reads {E : XK} {Q : VK} {p c : Addr} {H : Hp} {ns : List Int} (hl : ns.length ≤ 63) (hb : ∀ n ∈ ns, Sz bigN n) (tabs : LamX.Tabs T.tb H) (ncp : c ≠ p) (hc : H c = some (.lst (ns.map V.int))) (hp : H p = some (.lst [.ref c, .int 0, .int 0])) (hQ : ∀ H', Q (.bl true) H') {v : V} {D : Ends} (hD : D.rt = Q) :
    tS K T E lawB D ((L2.start ["script", "pen", "turn", "stores", "rays", "lots_of", "guess", "value", "ray", "some"] [v]).set 1 (some (.ref p))) H := by
  have P0 : PnOk 800 ⟨ns, 0, 0⟩ := ⟨hb, hl, Int.le_refl 0, by show (0 : Int) + ((800 : Nat) : Int) ≤ 100000; decide, Int.le_refl 0⟩
  obtain ⟨w', ew⟩ := lawB_true (a0 := none) P0
  have eF : Ext (F1c c (ns.map V.int)) H := fun b o q => by
    obtain ⟨rfl, rfl⟩ := f1_some q
    exact hc
  have out : ∀ (i : Nat) (l : List Rh.D), (LG none none none none none none none none none)[i]? ≠ some (some (.chg l)) := fun i l q => by
    match i, q with
    | 0, q => cases q
    | 1, q => cases q
    | 2, q => cases q
    | 3, q => cases q
    | 4, q => cases q
    | 5, q => cases q
    | 6, q => cases q
    | 7, q => cases q
    | 8, q => cases q
    | 9, q => cases q
    | i + 10, q => cases q
  have pn : Pen T p (F1c c (ns.map V.int)) H ⟨ns, 0, 0⟩ := ⟨if_neg (Ne.symm ncp), ⟨c, hp, if_pos rfl⟩, fun b ps q => (nomatch (f1_some q).2), tabs⟩
  refine ⟨p, _, H, _, LG none none none none none none none none none, ⟨ns, 0, 0⟩, ⟨⟨eF, pn, rfl, fun i d q => ?_, fun i l q => absurd q (out i l), fun i j l m a _ q => absurd q (out i l)⟩, Grow.refl eF, fun i l a q => absurd q (out i l)⟩, ?_⟩
  · match i, q with
    | 0, q => cases q
    | 1, q => cases q; exact ⟨.ref p, rfl, .pen⟩
    | 2, q => cases q
    | 3, q => cases q
    | 4, q => cases q
    | 5, q => cases q
    | 6, q => cases q
    | 7, q => cases q
    | 8, q => cases q
    | 9, q => cases q
    | i + 10, q => cases q
  · rw [ew]
    intro v F' H' g pn' r
    cases r
    rw [hD]
    exact hQ H'
theorem law_G (h : Hd P w K mg base T) (hp : FnAt K mg "_law_pen" (top 54)) {c P1 : Addr} (hc : FnCAt K mg "_law_refused_right" (top 72) c) (TB : LamX.TabB base mg c P1) (hmT : (P1, lamQ "_law_refused_right" (top 72)) ∈ T.tb) (hu : ∀ q ∈ T.tb, q.1 = P1 → q.2 = lamQ "_law_refused_right" (top 72))
    {f : Addr} {fd : FuncData} (F : L2.Fun K "law" "law" (top 73) f fd) : FnOkG P w K mg base (L2.CX P w) 20 f fd ["script"] (spLawG K T) := by
  obtain ⟨fp, fdp, FO, hm, hkp, hbp⟩ := ok_pen (P := P) (w := w) (base := base) hp h.int
  have S : FnScope ["script", "pen", "turn", "stores", "rays", "lots_of", "guess", "value", "ray", "some"] ["script"] (defScope (top 73)) := ⟨rfl, rfl, rfl, by decide +kernel, rfl, by decide +kernel, by decide +kernel⟩
  refine okG F S (fun vs H Q E hs => ?_) (fun cdv A outer s H vs Q E hgd hr hs => ⟨_, pss_cons (ps_set (i := 1) S.nd rfl (.inr rfl) (pe_call FO (hr.mono (by decide)) rfl hm hkp hbp .nil pass_body (pa_cons (pv 0) pa_nil))) (bd_law h hc TB hmT hu cdv A outer s H E f hgd hr), ?_⟩)
  · obtain ⟨a, ns, rfl, _⟩ := hs
    rfl
  · obtain ⟨a, ns, rfl, hS, hl, hb, tabs, hQ⟩ := hs
    refine ⟨_, rfl, a, ns, rfl, hS, hl, fun c' p H' ke _ _ ncp hc' hp' => ?_⟩
    exact law_reads hl hb (tabs.ext ke) ncp hc' hp' hQ rfl
end
end Rh
set_option Elab.async false
set_option linter.all false
set_option maxRecDepth 100000
set_option maxHeartbeats 4000000
/-! Rh: a law's call as the row asks it, for a promise that holds where no repr goes on; one table of code objects. -/
namespace Rh
open PySem L2 PySem.Spec PyProof.Rows
/-- what the head leaves, the script laid -/
structure Scene (K : PySem.W.Frag) (mg mb : Str → Option Value) (a c P0 : Addr) (vs : List Value) (ns : List Int) (s : Shared) : Prop where
  kin : K.In s.heap
  glob : s.heap.Ns mainGlobals mg
  blt : s.heap.Ns builtinsNs mb
  bbo : ∀ x : Str, x ≠ "__name__" → mb x = bootBuiltins x
  lim : s.heap.NoLimit
  gens : s.gens = #[]
  tab : s.heap.get? P0 = some (PySem.W.tabObj #[])
  ntab : K.lookup P0 = none
  cod : PySem.W.CodeHd s.heap c P0
  bm : ∃ (m : Addr) (ob : Obj), mg "__builtins__" = some (.ref m) ∧ m ≠ builtinsNs ∧ s.heap.get? m = some ob ∧ ob.cls = .type "module" ∧ ob.dict = some builtinsNs ∧ ob.data = .plain
  scr : s.heap.get? a = some { cls := .type "list", data := .seq vs.toArray }
  whole : IntsAre vs ns
  len : ns.length ≤ 63
/-- what is tracked: the table; the script, unless it is written -/
def Hz (K : PySem.W.Frag) (a P0 : Addr) (o : Obj) (xs : List V) : Hp := fun x => if x = P0 then some (.tbl #[]) else if x = a ∧ (K.lookup a).isNone = true then some (.frz o (.lst xs)) else none
section
variable {P : Program} {w : World} {K : PySem.W.Frag} {mg mb : Str → Option Value} {a c P0 : Addr} {vs : List Value} {ns : List Int} {s : Shared} {o : Obj} {xs : List V}
theorem hz_tab : Hz K a P0 o xs P0 = some (.tbl #[]) := if_pos rfl
theorem hz_some {b : Addr} {u : HO} (h : Hz K a P0 o xs b = some u) : (b = P0 ∧ u = .tbl #[]) ∨ (b = a ∧ u = .frz o (.lst xs) ∧ K.lookup a = none) := by
  unfold Hz at h
  by_cases e : b = P0
  · rw [if_pos e] at h
    exact .inl ⟨e, (Option.some.inj h).symm⟩
  · rw [if_neg e] at h
    by_cases e2 : b = a ∧ (K.lookup a).isNone = true
    · rw [if_pos e2] at h
      exact .inr ⟨e2.1, (Option.some.inj h).symm, Option.isNone_iff_eq_none.mp e2.2⟩
    · rw [if_neg e2] at h; cases h
abbrev sObj (vs : List Value) : Obj := { cls := .type "list", data := .seq vs.toArray }
abbrev HzS (K : PySem.W.Frag) (a P0 : Addr) (vs : List Value) (ns : List Int) : Hp := Hz K a P0 (sObj vs) (ns.map V.int)
theorem Scene.ne (S : Scene K mg mb a c P0 vs ns s) : a ≠ P0 := fun z => by
  have h1 := S.scr
  rw [z, S.tab] at h1
  have h2 := congrArg Obj.data (Option.some.inj h1)
  cases h2
theorem Scene.size (S : Scene K mg mb a c P0 vs ns s) : vs.toArray.size ≤ sizeLine := by
  rw [List.size_toArray, S.whole.length, sizeLine_eq]
  have := S.len
  omega
theorem Scene.sql (S : Scene K mg mb a c P0 vs ns s) : SqL K (HzS K a P0 vs ns) a (ns.map V.int) := by
  cases q : K.lookup a with
  | none =>
    refine .inl (.inr ⟨sObj vs, ?_⟩)
    show Hz K a P0 (sObj vs) (ns.map V.int) a = _
    unfold Hz
    rw [if_neg S.ne, if_pos ⟨rfl, by rw [q]; rfl⟩]
  | some u =>
    have e := S.kin a u q
    rw [S.scr] at e
    obtain rfl := Option.some.inj e
    exact .inr ⟨sObj vs, vs.toArray, _, q, rfl, rfl, rfl, S.size, by simpa using vals_ints S.whole⟩
theorem Scene.hok (S : Scene K mg mb a c P0 vs ns s) : HOk P w (HzS K a P0 vs ns) s.heap := fun b u h => by
  rcases hz_some h with ⟨rfl, rfl⟩ | ⟨rfl, rfl, _⟩
  · exact S.tab
  · refine ⟨S.scr, ?_, vs, _, vals_ints S.whole, S.scr⟩
    rw [List.length_map, sizeLine_eq]
    have := S.len
    omega
/-- any other object is not tracked -/
theorem Scene.free (S : Scene K mg mb a c P0 vs ns s) {b : Addr} {u : Obj} (h : s.heap.get? b = some u) (h1 : ∀ l n, u.data ≠ .seq l n) (h2 : u.data ≠ .fields #[]) : HzS K a P0 vs ns b = none := by
  cases q : HzS K a P0 vs ns b with
  | none => rfl
  | some v =>
    rcases hz_some q with ⟨rfl, _⟩ | ⟨rfl, _, _⟩
    · rw [S.tab] at h
      obtain rfl := Option.some.inj h
      exact absurd rfl h2
    · rw [S.scr] at h
      obtain rfl := Option.some.inj h
      exact absurd rfl (h1 _ _)
theorem Scene.hid (S : Scene K mg mb a c P0 vs ns s) {b : Addr} {u : Obj} (h : s.heap.get? b = some u) (h1 : ∀ l n, u.data ≠ .seq l n) (h2 : u.data ≠ .fields #[]) : (hidT s.heap (HzS K a P0 vs ns)).get? b = some u := hidT_get h (S.free h h1 h2)
theorem Scene.hidNs (S : Scene K mg mb a c P0 vs ns s) {b : Addr} {f : Str → Option Value} (h : s.heap.Ns b f) : (hidT s.heap (HzS K a P0 vs ns)).Ns b f := by
  obtain ⟨u, es, ep, e, hd, r⟩ := h
  refine ⟨u, es, ep, S.hid e (fun l n z => ?_) fun z => ?_, hd, r⟩
  · rw [hd] at z; cases z
  · rw [hd] at z; cases z
theorem Scene.hidK (S : Scene K mg mb a c P0 vs ns s) : K.In (hidT s.heap (HzS K a P0 vs ns)) := fun b u e => by
  refine hidT_get (S.kin b u e) ?_
  cases q : HzS K a P0 vs ns b with
  | none => rfl
  | some v =>
    rcases hz_some q with ⟨rfl, _⟩ | ⟨rfl, _, hn⟩
    · rw [S.ntab] at e; cases e
    · rw [hn] at e; cases e
theorem Scene.hidM (S : Scene K mg mb a c P0 vs ns s) : L2.Mod K mg (hidT s.heap (HzS K a P0 vs ns)) := by
  refine ⟨S.hidK, S.hidNs S.glob, ⟨mb, S.hidNs S.blt, S.bbo⟩, ?_⟩
  obtain ⟨m, g1, g2⟩ := S.lim
  exact ⟨m, S.hidNs g1, g2⟩
theorem Scene.hidT' (S : Scene K mg mb a c P0 vs ns s) : LamX.TabB (hidT s.heap (HzS K a P0 vs ns)) mg c P0 := by
  have dictNe : ∀ {b : Addr} {f : Str → Option Value}, s.heap.Ns b f → b ≠ P0 := fun {b f} h z => by
    obtain ⟨u, es, ep, e, hd, _⟩ := h
    rw [z, S.tab] at e
    obtain rfl := Option.some.inj e
    cases hd
  refine ⟨?_, ?_, dictNe S.glob⟩
  · obtain ⟨u, l, file, tf, fl, tg, inF, tx, tt, e, k1, k2, k3, k⟩ := S.cod
    refine ⟨u, l, file, tf, fl, tg, inF, tx, tt, S.hid e (fun l' n z => ?_) (fun z => ?_), k1, k2, k3, k⟩
    · rw [k2] at z; cases z
    · rw [k2] at z
      obtain rfl : l = #[] := by cases z; rfl
      simp at k3
  · obtain ⟨m, ob, b1, b2, b3, b4, b5, b6⟩ := S.bm
    have mG : m ≠ mainGlobals := fun z => by
      obtain ⟨u, es, ep, e, hd, _⟩ := S.glob
      rw [← z, b3] at e
      obtain rfl := Option.some.inj e
      rw [b6] at hd; cases hd
    have mP : m ≠ P0 := fun z => by
      rw [z, S.tab] at b3
      obtain rfl := Option.some.inj b3
      cases b6
    refine ⟨m, ob, b1, b2, mG, mP, S.hid b3 (fun l n z => ?_) (fun z => ?_), b4, b5, b6⟩
    · rw [b6] at z; cases z
    · rw [b6] at z; cases z
theorem Scene.env (S : Scene K mg mb a c P0 vs ns s) : Env0 P w K mg (hidT s.heap (HzS K a P0 vs ns)) callerA [] s (HzS K a P0 vs ns) where
  frames := rfl
  mod := S.hidM
  bs := fun b u e => of_hidT e
  bsz := Nat.le_of_eq (hidT_size _ _)
  funs := trivial
  frf := fun b h => absurd (show b ∈ ([] : List Addr) from h) List.not_mem_nil
  hok := S.hok
  bare := .of_eq S.gens
/-- the end -/
theorem Scene.call (S : Scene K mg mb a c P0 vs ns s) {k : Nat} {fa : Addr} {fd : FuncData} {x : Str} {sp : Sp} (hr : Room k callerA)
    (F : FnOkG P w K mg (hidT s.heap (HzS K a P0 vs ns)) (L2.CX P w) k fa fd [x] sp) (hb : BindsTo s fd ⟨[.ref a], []⟩ [(x, .ref a)]) (hsp : sp [.ref a] (HzS K a P0 vs ns) (fun v _ => v = .bl true) fun _ _ _ => False) :
    codeAny (model P w) callerA (.call (.ref fa) ⟨[.ref a], []⟩) (fun r s' => r = .ok (.ret (.bool true)) ∧ OldK s.heap s'.heap ∧ s'.os = s.os ∧ AllBare s'.gens) s := by
  refine codeAny_mono (F.run callerA [] s _ ⟨[.ref a], []⟩ [.ref a] [.ref a] _ _ hr rfl S.env hb (.cons rfl .nil) hsp) fun r s' h => ?_
  match r, h with
  | .error e, h =>
    obtain ⟨_, _, _, _, _, _, _, _, _, _, _, _, z⟩ := h
    exact z.elim
  | .ok .next, h => exact False.elim h
  | .ok .brk, h => exact False.elim h
  | .ok .cont, h => exact False.elim h
  | .ok (.ret u), h =>
    obtain ⟨v, H', ho, hg, un, hk, rv, hv⟩ := h
    obtain rfl : v = .bl true := hv
    obtain rfl : u = Value.bool true := rv
    have old : ∀ b ob, s.heap.get? b = some ob → b ≠ P0 → s'.heap.get? b = some ob := fun b ob e nb => by
      cases q : HzS K a P0 vs ns b with
      | none => exact un.keep b ob e q (fun z => absurd (show b ∈ ([] : List Addr) from z) List.not_mem_nil) List.not_mem_nil
      | some u =>
        rcases hz_some q with ⟨z, _⟩ | ⟨rfl, rfl, _⟩
        · exact absurd z nb
        · have h2 := (hk b _ (un.frzs b _ _ q)).1
          rw [S.scr] at e
          rw [← e]; exact h2
    obtain ⟨more, gt⟩ := un.tbls P0 #[] hz_tab
    have tabNow : s'.heap.get? P0 = some { cls := .none, data := .fields (#[] ++ more) } := hk P0 _ gt
    refine ⟨rfl, ⟨fun b ob e => ?_, fun b ob e => ?_⟩, ho, hg⟩
    · by_cases hb : b = P0
      · subst hb
        rw [S.tab] at e
        obtain rfl := Option.some.inj e
        exact .inr (.inl ⟨(S.cod.tab S.tab).isCodeTable, rfl, #[], more, rfl, tabNow⟩)
      · exact .inl (old b ob e hb)
    · by_cases hb : b = P0
      · exact ⟨_, by rw [hb]; exact tabNow⟩
      · exact ⟨ob, old b ob e hb⟩
end
end Rh
set_option Elab.async false
set_option linter.all false
set_option maxRecDepth 100000
set_option maxHeartbeats 4000000
/-! Rh: facts of the head from what is reckoned of its written part. -/
namespace Rh
open PySem L2 PySem.Spec PyProof.Rows
section
variable {K : PySem.W.Frag} {h : Heap} {mg : Str → Option Value}
def noneV : Value → Bool
  | .none => true
  | _ => false
/-- a def without defaults -/
def fnB (K : PySem.W.Frag) (x : Str) : Bool := match K.lookup (He.ga K x) with
  | some ⟨_, _, .func fd, _⟩ => noneV fd.defaults && (PySem.W.codeIn K fd.code x && (PySem.W.keepIn K (.ref (He.ga K x)) && He.eqO (PySem.W.nsIn K mainGlobals x) (some (some (.ref (He.ga K x))))))
  | _ => false
theorem fnAt_of (X : K.In h) (G : h.Ns mainGlobals mg) {x : Str} {st : Stmt} (c : fnB K x = true) (e : He.fnW K (x, none) = some (x, x, defArgs st, .stmts (defBody st), defScope st, mainGlobals, [], builtinsNs)) :
    ∃ (fd : FuncData), L2.Fun K x x st (He.ga K x) fd ∧ mg x = some (.ref (He.ga K x)) := by
  unfold fnB at c
  have e' : (match K.lookup (He.ga K x) with
    | some ⟨_, _, .func fd, _⟩ => some (fd.name, fd.qualname, fd.params, fd.body, fd.scope, fd.globals, fd.closure, fd.builtins)
    | _ => none : He.FnW) = some (x, x, defArgs st, .stmts (defBody st), defScope st, mainGlobals, [], builtinsNs) := e
  cases q : K.lookup (He.ga K x) with
  | none => rw [q] at c; cases c
  | some o =>
    obtain ⟨oc, od, dt, osl⟩ := o
    rw [q] at c e'
    cases dt with
    | func fd =>
      obtain ⟨n1, n2, n3, n4, n5, n6, n7, n8, n9, n10, n11, n12, n13, n14, n15⟩ := fd
      have e2 : (some (n1, n2, n3, n4, n5, n6, n7, n15) : He.FnW) = some (x, x, defArgs st, .stmts (defBody st), defScope st, mainGlobals, [], builtinsNs) := e'
      simp only [Option.some.injEq, Prod.mk.injEq] at e2
      obtain ⟨h1, h2, h3, h4, h5, h6, h7, h8⟩ := e2
      have c2 : (noneV n8 && (PySem.W.codeIn K n13 x && (PySem.W.keepIn K (.ref (He.ga K x)) && He.eqO (PySem.W.nsIn K mainGlobals x) (some (some (.ref (He.ga K x))))))) = true := c
      obtain ⟨k1, k⟩ := He.ba c2
      obtain ⟨k2, k⟩ := He.ba k
      obtain ⟨k3, k4⟩ := He.ba k
      subst h1 h2 h3 h4 h5 h6 h7 h8
      cases n8 with
      | none => exact ⟨_, ⟨⟨oc, od, n9, n10, n11, n12, n13, n14, osl, rfl, q, k2⟩, k3⟩, PySem.W.mg_of X G (He.eqO_ok k4)⟩
      | _ => cases k1
    | _ => cases c
theorem fnDAt_of (X : K.In h) (G : h.Ns mainGlobals mg) {x : Str} {st : Stmt} {m : Nat} {d : He.DefD} (ed : d = ⟨(x, none), x, x, defArgs st, defBody st, defScope st, List.replicate m He.Dv.non, []⟩) (e : He.fnW K d.at_ = d.val) (c : d.ok K = true) (g : (He.Fa.glo x).ok K = true) : FnDAt K mg x st m := by
  obtain ⟨fd, F⟩ := He.DefD.funD e c
  subst ed
  refine ⟨⟨_, fd, ?_, He.glo_ok X G g⟩⟩
  have : (List.replicate m He.Dv.non).map (He.Dv.v K) = List.replicate m V.non := by rw [List.map_replicate]; rfl
  have F' : L2.FunD K x x (defArgs st) (defBody st) (defScope st) ((List.replicate m He.Dv.non).map (He.Dv.v K)) [] _ fd := F
  rw [this] at F'
  exact F'
/-- a def whose code object is told -/
def codeOf (K : PySem.W.Frag) (x : Str) : Addr := match K.lookup (He.ga K x) with
  | some ⟨_, _, .func fd, _⟩ => (match fd.code with
    | .ref c => c
    | _ => 0)
  | _ => 0
theorem fnCAt_of (X : K.In h) (G : h.Ns mainGlobals mg) {x : Str} {st : Stmt} (c : fnB K x = true) (e : He.fnW K (x, none) = some (x, x, defArgs st, .stmts (defBody st), defScope st, mainGlobals, [], builtinsNs)) (k : codeOf K x ≠ 0) : FnCAt K mg x st (codeOf K x) := by
  obtain ⟨fd, F, hm⟩ := fnAt_of X G c e
  obtain ⟨oc, od, kV, doc, pm, an, cdv, ct, osl, rfl, lk, hcd⟩ := F.ex
  have ec : cdv = .ref (codeOf K x) := by
    unfold codeOf at k ⊢
    rw [lk] at k ⊢
    cases cdv with
    | ref c => rfl
    | _ => exact absurd rfl k
  subst ec
  exact ⟨⟨_, oc, od, kV, doc, pm, an, ct, osl, lk, hcd, hm, F.kp⟩⟩
end
end Rh
set_option Elab.async false
set_option linter.all false
set_option maxRecDepth 100000
set_option maxHeartbeats 4000000
/-! Rh: facts of the head from what is reckoned of its written part: classes. -/
namespace Rh
open PySem L2 PySem.Spec PyProof.Rows
section
variable {P : Program} {K : PySem.W.Frag} {h : Heap} {mg : Str → Option Value}
def cellB (K : PySem.W.Frag) (cc C : Addr) : Bool := match K.lookup cc with
  | some ⟨_, _, .cell (some (.ref D)), _⟩ => D == C
  | _ => false
theorem cellB_ok {cc C : Addr} (h : cellB K cc C = true) : ∃ cl cld csl, K.lookup cc = some ⟨cl, cld, .cell (some (.ref C)), csl⟩ := by
  unfold cellB at h
  split at h
  · rename_i cl cld D csl q
    rw [beq_iff_eq.mp h] at q
    exact ⟨_, _, _, q⟩
  · cases h
def fileB (P : Program) (K : PySem.W.Frag) (v : Value) : Bool := match v with
  | .ref c => (match K.lookup c with
    | some ⟨_, _, .fields vs, _⟩ => (match (vs[2]? : Option Value) with
      | some (.str f _) => (P.main.file : Str) == f
      | _ => false)
    | _ => false)
  | _ => false
theorem fileB_ok {v : Value} (h : fileB P K v = true) : ∃ c ccl cdd vs ccs file tf, v = .ref c ∧ K.lookup c = some ⟨ccl, cdd, .fields vs, ccs⟩ ∧ vs[2]? = some (.str file tf) ∧ ((P.main.file : Str) == file) = true := by
  unfold fileB at h
  split at h
  · rename_i c
    split at h
    · rename_i q
      split at h
      · rename_i q2
        exact ⟨_, _, _, _, _, _, _, rfl, q, q2, h⟩
      · cases h
    · cases h
  · cases h
def cloB (K : PySem.W.Frag) (C : Addr) : List (Str × Addr) → Bool
  | [(x, cc)] => decide (x = "__class__") && cellB K cc C
  | _ => false
theorem cloB_ok {C : Addr} {l : List (Str × Addr)} (h : cloB K C l = true) : ∃ cc, l = [(("__class__" : Str), cc)] ∧ cellB K cc C = true := by
  unfold cloB at h
  split at h
  · rename_i x cc
    obtain ⟨h1, h2⟩ := He.ba h
    exact ⟨cc, by rw [of_decide_eq_true h1], h2⟩
  · cases h
def initB (P : Program) (K : PySem.W.Frag) (f C : Addr) (qual : Str) : Bool := match K.lookup f with
  | some ⟨_, _, .func fd, _⟩ => noneV fd.defaults && (noneV fd.kwdefaults && (fd.annotations.isNone && (fileB P K fd.code && (PySem.W.codeIn K fd.code qual && cloB K C fd.closure))))
  | _ => false
def cloOf (K : PySem.W.Frag) (f : Addr) : List (Str × Addr) := match K.lookup f with
  | some ⟨_, _, .func fd, _⟩ => fd.closure
  | _ => []
def InitAt (P : Program) (K : PySem.W.Frag) (f C : Addr) (qual : Str) (st : Stmt) : Prop :=
    ∃ (oc : Value) (od : Option Addr) (doc pm : Value) (cda : Addr) (ct : Value) (osl : Array (Option Value)) (cc : Addr) (cl : Value) (cld : Option Addr) (csl : Array (Option Value)) (ccl : Value) (cdd : Option Addr) (vs : Array Value) (ccs : Array (Option Value)) (file : Str) (tf : Tok),
      K.lookup f = some ⟨oc, od, .func (PySem.W.fnX "__init__" qual (defArgs st) (defBody st) (defScope st) [("__class__", cc)] .none .none doc pm none (.ref cda) ct), osl⟩ ∧ PySem.W.codeIn K (.ref cda) qual = true ∧
      K.lookup cc = some ⟨cl, cld, .cell (some (.ref C)), csl⟩ ∧ K.lookup cda = some ⟨ccl, cdd, .fields vs, ccs⟩ ∧ vs[2]? = some (.str file tf) ∧ ((P.main.file : Str) == file) = true
theorem init_of {f C : Addr} {cn qual : Str} {st : Stmt} (ef : He.fAd K (cn, some "__init__") = f) (c : initB P K f C qual = true) (e : He.fnW K (cn, some "__init__") = some (("__init__" : Str), qual, defArgs st, FuncBody.stmts (defBody st), defScope st, mainGlobals, cloOf K f, builtinsNs)) :
    InitAt P K f C qual st := by
  have e' : (match K.lookup (He.fAd K (cn, some "__init__")) with
    | some ⟨_, _, .func fd, _⟩ => some (fd.name, fd.qualname, fd.params, fd.body, fd.scope, fd.globals, fd.closure, fd.builtins)
    | _ => none : He.FnW) = some (("__init__" : Str), qual, defArgs st, FuncBody.stmts (defBody st), defScope st, mainGlobals, cloOf K f, builtinsNs) := e
  rw [ef] at e'
  unfold initB at c
  cases q : K.lookup f with
  | none => rw [q] at c; cases c
  | some o =>
    obtain ⟨oc, od, dt, osl⟩ := o
    rw [q] at c e'
    cases dt with
    | func fd =>
      obtain ⟨n1, n2, n3, n4, n5, n6, n7, n8, n9, n10, n11, n12, n13, n14, n15⟩ := fd
      have e2 : (some (n1, n2, n3, n4, n5, n6, n7, n15) : He.FnW) = some (("__init__" : Str), qual, defArgs st, FuncBody.stmts (defBody st), defScope st, mainGlobals, cloOf K f, builtinsNs) := e'
      have c2 : (noneV n8 && (noneV n9 && (n12.isNone && (fileB P K n13 && (PySem.W.codeIn K n13 qual && cloB K C n7))))) = true := c
      obtain ⟨k1, k⟩ := He.ba c2
      obtain ⟨k2, k⟩ := He.ba k
      obtain ⟨k3, k⟩ := He.ba k
      obtain ⟨k4, k⟩ := He.ba k
      obtain ⟨k5, k6⟩ := He.ba k
      obtain ⟨cc, rfl, kc⟩ := cloB_ok k6
      obtain ⟨cl, cld, csl, hcc⟩ := cellB_ok kc
      obtain ⟨cda, ccl, cdd, vs, ccs, file, tf, rfl, hcd, hv, hf⟩ := fileB_ok k4
      simp only [Option.some.injEq, Prod.mk.injEq] at e2
      obtain ⟨h1, h2, h3, h4, h5, h6, _, h8⟩ := e2
      have a8 : n8 = .none := by cases n8 <;> first | rfl | cases k1
      have a9 : n9 = .none := by cases n9 <;> first | rfl | cases k2
      have a12 : n12 = none := Option.isNone_iff_eq_none.mp k3
      subst h1 h2 h3 h4 h5 h6 h8 a8 a9 a12
      exact ⟨oc, od, n10, n11, cda, n14, osl, cc, cl, cld, csl, ccl, cdd, vs, ccs, file, tf, q, k5, hcc, hcd, hv, hf⟩
    | _ => cases c
/-! classes of exceptions -/
def nmC (K : PySem.W.Frag) (C : Addr) : Str := match K.lookup C with
  | some ⟨_, _, .cls cd, _⟩ => cd.name
  | _ => ""
def qC (K : PySem.W.Frag) (C : Addr) : Str := match K.lookup C with
  | some ⟨_, _, .cls cd, _⟩ => cd.qualname
  | _ => ""
def nsC (K : PySem.W.Frag) (C : Addr) : Addr := match K.lookup C with
  | some ⟨_, _, .cls cd, _⟩ => cd.ns
  | _ => 0
def bsC (K : PySem.W.Frag) (C : Addr) : List Value := match K.lookup C with
  | some ⟨_, _, .cls cd, _⟩ => cd.bases
  | _ => []
def bmC (K : PySem.W.Frag) (C : Addr) : List Value := match K.lookup C with
  | some ⟨_, _, .cls cd, _⟩ => cd.mro.drop 1
  | _ => []
def snC (K : PySem.W.Frag) (C : Addr) : List Str := match K.lookup C with
  | some ⟨_, _, .cls cd, _⟩ => cd.slotNames
  | _ => []
def subC (K : PySem.W.Frag) (C : Addr) : List Value := match K.lookup C with
  | some ⟨_, _, .cls cd, _⟩ => cd.subclasses
  | _ => []
def abC (K : PySem.W.Frag) (C : Addr) : Bool := match K.lookup C with
  | some ⟨_, _, .cls cd, _⟩ => cd.abstract
  | _ => false
def colC (K : PySem.W.Frag) (C : Addr) : Option Bool := match K.lookup C with
  | some ⟨_, _, .cls cd, _⟩ => cd.collection
  | _ => none
def ddC (K : PySem.W.Frag) (C : Addr) : Option Addr := match K.lookup C with
  | some o => o.dict
  | _ => none
def slC (K : PySem.W.Frag) (C : Addr) (i : Nat) : Option Value := match K.lookup C with
  | some o => (o.slots[i]?).getD none
  | _ => none
def excO (K : PySem.W.Frag) (C : Addr) : Obj := excClassObj (nmC K C) (qC K C) C (nsC K C) (bsC K C) (bmC K C) true (snC K C) (subC K C) (abC K C) (colC K C) (ddC K C) (slC K C 0) (slC K C 1) (slC K C 2) (slC K C 3) (slC K C 5) "ValueError.__new__"
end
end Rh
section
open PySem PySem.W PyProof.Rows
set_option Elab.async false
set_option linter.all false
set_option maxRecDepth 100000
set_option maxHeartbeats 0
open_top head75 for PySem.Challenge.rw_roundsheld_k75_points_of_lots
end
set_option Elab.async false
set_option linter.all false
set_option maxRecDepth 100000
set_option maxHeartbeats 0
/-! Rh: the facts of this head, printed by facts.py. -/
namespace Rh
open PySem L2 PySem.Spec PyProof.Rows
noncomputable abbrev KK (w : World) : PySem.W.Frag := head75.heap_39 w.params
abbrev PP : Program := PySem.Challenge.rw_roundsheld_k75_points_of_lots.prog
section
variable (w : World) {h : Heap} {mg : Str → Option Value}

theorem b_is_integer : fnB (KK w) "is_integer" = true := by kernel_rfl
theorem w_is_integer : He.fnW (KK w) ("is_integer", none) = some (("is_integer" : Str), ("is_integer" : Str), defArgs (top 13), FuncBody.stmts (defBody (top 13)), defScope (top 13), mainGlobals, [], builtinsNs) := by kernel_rfl
theorem at_is_integer (X : (KK w).In h) (G : h.Ns mainGlobals mg) : FnAt (KK w) mg "is_integer" (top 13) := let ⟨fd, F, hm⟩ := fnAt_of X G (b_is_integer w) (w_is_integer w); ⟨⟨_, fd, F, hm⟩⟩
theorem b_is_within : fnB (KK w) "is_within" = true := by kernel_rfl
theorem w_is_within : He.fnW (KK w) ("is_within", none) = some (("is_within" : Str), ("is_within" : Str), defArgs (top 14), FuncBody.stmts (defBody (top 14)), defScope (top 14), mainGlobals, [], builtinsNs) := by kernel_rfl
theorem at_is_within (X : (KK w).In h) (G : h.Ns mainGlobals mg) : FnAt (KK w) mg "is_within" (top 14) := let ⟨fd, F, hm⟩ := fnAt_of X G (b_is_within w) (w_is_within w); ⟨⟨_, fd, F, hm⟩⟩
theorem b_is_listed : fnB (KK w) "is_listed" = true := by kernel_rfl
theorem w_is_listed : He.fnW (KK w) ("is_listed", none) = some (("is_listed" : Str), ("is_listed" : Str), defArgs (top 15), FuncBody.stmts (defBody (top 15)), defScope (top 15), mainGlobals, [], builtinsNs) := by kernel_rfl
theorem at_is_listed (X : (KK w).In h) (G : h.Ns mainGlobals mg) : FnAt (KK w) mg "is_listed" (top 15) := let ⟨fd, F, hm⟩ := fnAt_of X G (b_is_listed w) (w_is_listed w); ⟨⟨_, fd, F, hm⟩⟩
theorem b_need_number : fnB (KK w) "need_number" = true := by kernel_rfl
theorem w_need_number : He.fnW (KK w) ("need_number", none) = some (("need_number" : Str), ("need_number" : Str), defArgs (top 17), FuncBody.stmts (defBody (top 17)), defScope (top 17), mainGlobals, [], builtinsNs) := by kernel_rfl
theorem at_need_number (X : (KK w).In h) (G : h.Ns mainGlobals mg) : FnAt (KK w) mg "need_number" (top 17) := let ⟨fd, F, hm⟩ := fnAt_of X G (b_need_number w) (w_need_number w); ⟨⟨_, fd, F, hm⟩⟩
theorem b_need_value : fnB (KK w) "need_value" = true := by kernel_rfl
theorem w_need_value : He.fnW (KK w) ("need_value", none) = some (("need_value" : Str), ("need_value" : Str), defArgs (top 18), FuncBody.stmts (defBody (top 18)), defScope (top 18), mainGlobals, [], builtinsNs) := by kernel_rfl
theorem at_need_value (X : (KK w).In h) (G : h.Ns mainGlobals mg) : FnAt (KK w) mg "need_value" (top 18) := let ⟨fd, F, hm⟩ := fnAt_of X G (b_need_value w) (w_need_value w); ⟨⟨_, fd, F, hm⟩⟩
theorem b_fixed : fnB (KK w) "fixed" = true := by kernel_rfl
theorem w_fixed : He.fnW (KK w) ("fixed", none) = some (("fixed" : Str), ("fixed" : Str), defArgs (top 20), FuncBody.stmts (defBody (top 20)), defScope (top 20), mainGlobals, [], builtinsNs) := by kernel_rfl
theorem at_fixed (X : (KK w).In h) (G : h.Ns mainGlobals mg) : FnAt (KK w) mg "fixed" (top 20) := let ⟨fd, F, hm⟩ := fnAt_of X G (b_fixed w) (w_fixed w); ⟨⟨_, fd, F, hm⟩⟩
theorem b_is_fraction : fnB (KK w) "is_fraction" = true := by kernel_rfl
theorem w_is_fraction : He.fnW (KK w) ("is_fraction", none) = some (("is_fraction" : Str), ("is_fraction" : Str), defArgs (top 23), FuncBody.stmts (defBody (top 23)), defScope (top 23), mainGlobals, [], builtinsNs) := by kernel_rfl
theorem at_is_fraction (X : (KK w).In h) (G : h.Ns mainGlobals mg) : FnAt (KK w) mg "is_fraction" (top 23) := let ⟨fd, F, hm⟩ := fnAt_of X G (b_is_fraction w) (w_is_fraction w); ⟨⟨_, fd, F, hm⟩⟩
theorem b_are_fractions : fnB (KK w) "are_fractions" = true := by kernel_rfl
theorem w_are_fractions : He.fnW (KK w) ("are_fractions", none) = some (("are_fractions" : Str), ("are_fractions" : Str), defArgs (top 24), FuncBody.stmts (defBody (top 24)), defScope (top 24), mainGlobals, [], builtinsNs) := by kernel_rfl
theorem at_are_fractions (X : (KK w).In h) (G : h.Ns mainGlobals mg) : FnAt (KK w) mg "are_fractions" (top 24) := let ⟨fd, F, hm⟩ := fnAt_of X G (b_are_fractions w) (w_are_fractions w); ⟨⟨_, fd, F, hm⟩⟩
theorem b_lowest_of : fnB (KK w) "lowest_of" = true := by kernel_rfl
theorem w_lowest_of : He.fnW (KK w) ("lowest_of", none) = some (("lowest_of" : Str), ("lowest_of" : Str), defArgs (top 25), FuncBody.stmts (defBody (top 25)), defScope (top 25), mainGlobals, [], builtinsNs) := by kernel_rfl
theorem at_lowest_of (X : (KK w).In h) (G : h.Ns mainGlobals mg) : FnAt (KK w) mg "lowest_of" (top 25) := let ⟨fd, F, hm⟩ := fnAt_of X G (b_lowest_of w) (w_lowest_of w); ⟨⟨_, fd, F, hm⟩⟩
theorem b_plus : fnB (KK w) "plus" = true := by kernel_rfl
theorem w_plus : He.fnW (KK w) ("plus", none) = some (("plus" : Str), ("plus" : Str), defArgs (top 26), FuncBody.stmts (defBody (top 26)), defScope (top 26), mainGlobals, [], builtinsNs) := by kernel_rfl
theorem at_plus (X : (KK w).In h) (G : h.Ns mainGlobals mg) : FnAt (KK w) mg "plus" (top 26) := let ⟨fd, F, hm⟩ := fnAt_of X G (b_plus w) (w_plus w); ⟨⟨_, fd, F, hm⟩⟩
theorem b_times : fnB (KK w) "times" = true := by kernel_rfl
theorem w_times : He.fnW (KK w) ("times", none) = some (("times" : Str), ("times" : Str), defArgs (top 27), FuncBody.stmts (defBody (top 27)), defScope (top 27), mainGlobals, [], builtinsNs) := by kernel_rfl
theorem at_times (X : (KK w).In h) (G : h.Ns mainGlobals mg) : FnAt (KK w) mg "times" (top 27) := let ⟨fd, F, hm⟩ := fnAt_of X G (b_times w) (w_times w); ⟨⟨_, fd, F, hm⟩⟩
theorem b_shared_bottom : fnB (KK w) "shared_bottom" = true := by kernel_rfl
theorem w_shared_bottom : He.fnW (KK w) ("shared_bottom", none) = some (("shared_bottom" : Str), ("shared_bottom" : Str), defArgs (top 28), FuncBody.stmts (defBody (top 28)), defScope (top 28), mainGlobals, [], builtinsNs) := by kernel_rfl
theorem at_shared_bottom (X : (KK w).In h) (G : h.Ns mainGlobals mg) : FnAt (KK w) mg "shared_bottom" (top 28) := let ⟨fd, F, hm⟩ := fnAt_of X G (b_shared_bottom w) (w_shared_bottom w); ⟨⟨_, fd, F, hm⟩⟩
theorem b_over_it : fnB (KK w) "over_it" = true := by kernel_rfl
theorem w_over_it : He.fnW (KK w) ("over_it", none) = some (("over_it" : Str), ("over_it" : Str), defArgs (top 29), FuncBody.stmts (defBody (top 29)), defScope (top 29), mainGlobals, [], builtinsNs) := by kernel_rfl
theorem at_over_it (X : (KK w).In h) (G : h.Ns mainGlobals mg) : FnAt (KK w) mg "over_it" (top 29) := let ⟨fd, F, hm⟩ := fnAt_of X G (b_over_it w) (w_over_it w); ⟨⟨_, fd, F, hm⟩⟩
theorem b_turn_of : fnB (KK w) "turn_of" = true := by kernel_rfl
theorem w_turn_of : He.fnW (KK w) ("turn_of", none) = some (("turn_of" : Str), ("turn_of" : Str), defArgs (top 32), FuncBody.stmts (defBody (top 32)), defScope (top 32), mainGlobals, [], builtinsNs) := by kernel_rfl
theorem at_turn_of (X : (KK w).In h) (G : h.Ns mainGlobals mg) : FnAt (KK w) mg "turn_of" (top 32) := let ⟨fd, F, hm⟩ := fnAt_of X G (b_turn_of w) (w_turn_of w); ⟨⟨_, fd, F, hm⟩⟩
theorem b_quarter_of : fnB (KK w) "quarter_of" = true := by kernel_rfl
theorem w_quarter_of : He.fnW (KK w) ("quarter_of", none) = some (("quarter_of" : Str), ("quarter_of" : Str), defArgs (top 33), FuncBody.stmts (defBody (top 33)), defScope (top 33), mainGlobals, [], builtinsNs) := by kernel_rfl
theorem at_quarter_of (X : (KK w).In h) (G : h.Ns mainGlobals mg) : FnAt (KK w) mg "quarter_of" (top 33) := let ⟨fd, F, hm⟩ := fnAt_of X G (b_quarter_of w) (w_quarter_of w); ⟨⟨_, fd, F, hm⟩⟩
theorem b_is_ahead : fnB (KK w) "is_ahead" = true := by kernel_rfl
theorem w_is_ahead : He.fnW (KK w) ("is_ahead", none) = some (("is_ahead" : Str), ("is_ahead" : Str), defArgs (top 35), FuncBody.stmts (defBody (top 35)), defScope (top 35), mainGlobals, [], builtinsNs) := by kernel_rfl
theorem at_is_ahead (X : (KK w).In h) (G : h.Ns mainGlobals mg) : FnAt (KK w) mg "is_ahead" (top 35) := let ⟨fd, F, hm⟩ := fnAt_of X G (b_is_ahead w) (w_is_ahead w); ⟨⟨_, fd, F, hm⟩⟩
theorem b_by_angle : fnB (KK w) "by_angle" = true := by kernel_rfl
theorem w_by_angle : He.fnW (KK w) ("by_angle", none) = some (("by_angle" : Str), ("by_angle" : Str), defArgs (top 34), FuncBody.stmts (defBody (top 34)), defScope (top 34), mainGlobals, [], builtinsNs) := by kernel_rfl
theorem at_by_angle (X : (KK w).In h) (G : h.Ns mainGlobals mg) : FnAt (KK w) mg "by_angle" (top 34) := let ⟨fd, F, hm⟩ := fnAt_of X G (b_by_angle w) (w_by_angle w); ⟨⟨_, fd, F, hm⟩⟩
theorem b_neighbours : fnB (KK w) "neighbours" = true := by kernel_rfl
theorem w_neighbours : He.fnW (KK w) ("neighbours", none) = some (("neighbours" : Str), ("neighbours" : Str), defArgs (top 36), FuncBody.stmts (defBody (top 36)), defScope (top 36), mainGlobals, [], builtinsNs) := by kernel_rfl
theorem at_neighbours (X : (KK w).In h) (G : h.Ns mainGlobals mg) : FnAt (KK w) mg "neighbours" (top 36) := let ⟨fd, F, hm⟩ := fnAt_of X G (b_neighbours w) (w_neighbours w); ⟨⟨_, fd, F, hm⟩⟩
theorem b_is_lowest : fnB (KK w) "is_lowest" = true := by kernel_rfl
theorem w_is_lowest : He.fnW (KK w) ("is_lowest", none) = some (("is_lowest" : Str), ("is_lowest" : Str), defArgs (top 37), FuncBody.stmts (defBody (top 37)), defScope (top 37), mainGlobals, [], builtinsNs) := by kernel_rfl
theorem at_is_lowest (X : (KK w).In h) (G : h.Ns mainGlobals mg) : FnAt (KK w) mg "is_lowest" (top 37) := let ⟨fd, F, hm⟩ := fnAt_of X G (b_is_lowest w) (w_is_lowest w); ⟨⟨_, fd, F, hm⟩⟩
theorem b_are_rays : fnB (KK w) "are_rays" = true := by kernel_rfl
theorem w_are_rays : He.fnW (KK w) ("are_rays", none) = some (("are_rays" : Str), ("are_rays" : Str), defArgs (top 38), FuncBody.stmts (defBody (top 38)), defScope (top 38), mainGlobals, [], builtinsNs) := by kernel_rfl
theorem at_are_rays (X : (KK w).In h) (G : h.Ns mainGlobals mg) : FnAt (KK w) mg "are_rays" (top 38) := let ⟨fd, F, hm⟩ := fnAt_of X G (b_are_rays w) (w_are_rays w); ⟨⟨_, fd, F, hm⟩⟩
theorem b_threes : fnB (KK w) "threes" = true := by kernel_rfl
theorem w_threes : He.fnW (KK w) ("threes", none) = some (("threes" : Str), ("threes" : Str), defArgs (top 41), FuncBody.stmts (defBody (top 41)), defScope (top 41), mainGlobals, [], builtinsNs) := by kernel_rfl
theorem at_threes (X : (KK w).In h) (G : h.Ns mainGlobals mg) : FnAt (KK w) mg "threes" (top 41) := let ⟨fd, F, hm⟩ := fnAt_of X G (b_threes w) (w_threes w); ⟨⟨_, fd, F, hm⟩⟩
theorem b_bulge : fnB (KK w) "bulge" = true := by kernel_rfl
theorem w_bulge : He.fnW (KK w) ("bulge", none) = some (("bulge" : Str), ("bulge" : Str), defArgs (top 42), FuncBody.stmts (defBody (top 42)), defScope (top 42), mainGlobals, [], builtinsNs) := by kernel_rfl
theorem at_bulge (X : (KK w).In h) (G : h.Ns mainGlobals mg) : FnAt (KK w) mg "bulge" (top 42) := let ⟨fd, F, hm⟩ := fnAt_of X G (b_bulge w) (w_bulge w); ⟨⟨_, fd, F, hm⟩⟩
theorem b_are_round : fnB (KK w) "are_round" = true := by kernel_rfl
theorem w_are_round : He.fnW (KK w) ("are_round", none) = some (("are_round" : Str), ("are_round" : Str), defArgs (top 43), FuncBody.stmts (defBody (top 43)), defScope (top 43), mainGlobals, [], builtinsNs) := by kernel_rfl
theorem at_are_round (X : (KK w).In h) (G : h.Ns mainGlobals mg) : FnAt (KK w) mg "are_round" (top 43) := let ⟨fd, F, hm⟩ := fnAt_of X G (b_are_round w) (w_are_round w); ⟨⟨_, fd, F, hm⟩⟩
theorem b_are_all_round : fnB (KK w) "are_all_round" = true := by kernel_rfl
theorem w_are_all_round : He.fnW (KK w) ("are_all_round", none) = some (("are_all_round" : Str), ("are_all_round" : Str), defArgs (top 44), FuncBody.stmts (defBody (top 44)), defScope (top 44), mainGlobals, [], builtinsNs) := by kernel_rfl
theorem at_are_all_round (X : (KK w).In h) (G : h.Ns mainGlobals mg) : FnAt (KK w) mg "are_all_round" (top 44) := let ⟨fd, F, hm⟩ := fnAt_of X G (b_are_all_round w) (w_are_all_round w); ⟨⟨_, fd, F, hm⟩⟩
theorem b_is_formed : fnB (KK w) "is_formed" = true := by kernel_rfl
theorem w_is_formed : He.fnW (KK w) ("is_formed", none) = some (("is_formed" : Str), ("is_formed" : Str), defArgs (top 45), FuncBody.stmts (defBody (top 45)), defScope (top 45), mainGlobals, [], builtinsNs) := by kernel_rfl
theorem at_is_formed (X : (KK w).In h) (G : h.Ns mainGlobals mg) : FnAt (KK w) mg "is_formed" (top 45) := let ⟨fd, F, hm⟩ := fnAt_of X G (b_is_formed w) (w_is_formed w); ⟨⟨_, fd, F, hm⟩⟩
theorem b_worth_by : fnB (KK w) "worth_by" = true := by kernel_rfl
theorem w_worth_by : He.fnW (KK w) ("worth_by", none) = some (("worth_by" : Str), ("worth_by" : Str), defArgs (top 46), FuncBody.stmts (defBody (top 46)), defScope (top 46), mainGlobals, [], builtinsNs) := by kernel_rfl
theorem at_worth_by (X : (KK w).In h) (G : h.Ns mainGlobals mg) : FnAt (KK w) mg "worth_by" (top 46) := let ⟨fd, F, hm⟩ := fnAt_of X G (b_worth_by w) (w_worth_by w); ⟨⟨_, fd, F, hm⟩⟩
theorem b_corner_at : fnB (KK w) "corner_at" = true := by kernel_rfl
theorem w_corner_at : He.fnW (KK w) ("corner_at", none) = some (("corner_at" : Str), ("corner_at" : Str), defArgs (top 47), FuncBody.stmts (defBody (top 47)), defScope (top 47), mainGlobals, [], builtinsNs) := by kernel_rfl
theorem at_corner_at (X : (KK w).In h) (G : h.Ns mainGlobals mg) : FnAt (KK w) mg "corner_at" (top 47) := let ⟨fd, F, hm⟩ := fnAt_of X G (b_corner_at w) (w_corner_at w); ⟨⟨_, fd, F, hm⟩⟩
theorem b_need_lots : fnB (KK w) "need_lots" = true := by kernel_rfl
theorem w_need_lots : He.fnW (KK w) ("need_lots", none) = some (("need_lots" : Str), ("need_lots" : Str), defArgs (top 48), FuncBody.stmts (defBody (top 48)), defScope (top 48), mainGlobals, [], builtinsNs) := by kernel_rfl
theorem at_need_lots (X : (KK w).In h) (G : h.Ns mainGlobals mg) : FnAt (KK w) mg "need_lots" (top 48) := let ⟨fd, F, hm⟩ := fnAt_of X G (b_need_lots w) (w_need_lots w); ⟨⟨_, fd, F, hm⟩⟩
theorem b_is_in : fnB (KK w) "is_in" = true := by kernel_rfl
theorem w_is_in : He.fnW (KK w) ("is_in", none) = some (("is_in" : Str), ("is_in" : Str), defArgs (top 49), FuncBody.stmts (defBody (top 49)), defScope (top 49), mainGlobals, [], builtinsNs) := by kernel_rfl
theorem at_is_in (X : (KK w).In h) (G : h.Ns mainGlobals mg) : FnAt (KK w) mg "is_in" (top 49) := let ⟨fd, F, hm⟩ := fnAt_of X G (b_is_in w) (w_is_in w); ⟨⟨_, fd, F, hm⟩⟩
theorem b_corners : fnB (KK w) "corners" = true := by kernel_rfl
theorem w_corners : He.fnW (KK w) ("corners", none) = some (("corners" : Str), ("corners" : Str), defArgs (top 50), FuncBody.stmts (defBody (top 50)), defScope (top 50), mainGlobals, [], builtinsNs) := by kernel_rfl
theorem at_corners (X : (KK w).In h) (G : h.Ns mainGlobals mg) : FnAt (KK w) mg "corners" (top 50) := let ⟨fd, F, hm⟩ := fnAt_of X G (b_corners w) (w_corners w); ⟨⟨_, fd, F, hm⟩⟩
theorem b_widths : fnB (KK w) "widths" = true := by kernel_rfl
theorem w_widths : He.fnW (KK w) ("widths", none) = some (("widths" : Str), ("widths" : Str), defArgs (top 51), FuncBody.stmts (defBody (top 51)), defScope (top 51), mainGlobals, [], builtinsNs) := by kernel_rfl
theorem at_widths (X : (KK w).In h) (G : h.Ns mainGlobals mg) : FnAt (KK w) mg "widths" (top 51) := let ⟨fd, F, hm⟩ := fnAt_of X G (b_widths w) (w_widths w); ⟨⟨_, fd, F, hm⟩⟩
theorem b_middle : fnB (KK w) "middle" = true := by kernel_rfl
theorem w_middle : He.fnW (KK w) ("middle", none) = some (("middle" : Str), ("middle" : Str), defArgs (top 52), FuncBody.stmts (defBody (top 52)), defScope (top 52), mainGlobals, [], builtinsNs) := by kernel_rfl
theorem at_middle (X : (KK w).In h) (G : h.Ns mainGlobals mg) : FnAt (KK w) mg "middle" (top 52) := let ⟨fd, F, hm⟩ := fnAt_of X G (b_middle w) (w_middle w); ⟨⟨_, fd, F, hm⟩⟩
theorem b__law_draw : fnB (KK w) "_law_draw" = true := by kernel_rfl
theorem w__law_draw : He.fnW (KK w) ("_law_draw", none) = some (("_law_draw" : Str), ("_law_draw" : Str), defArgs (top 55), FuncBody.stmts (defBody (top 55)), defScope (top 55), mainGlobals, [], builtinsNs) := by kernel_rfl
theorem at__law_draw (X : (KK w).In h) (G : h.Ns mainGlobals mg) : FnAt (KK w) mg "_law_draw" (top 55) := let ⟨fd, F, hm⟩ := fnAt_of X G (b__law_draw w) (w__law_draw w); ⟨⟨_, fd, F, hm⟩⟩
theorem b__law_pick : fnB (KK w) "_law_pick" = true := by kernel_rfl
theorem w__law_pick : He.fnW (KK w) ("_law_pick", none) = some (("_law_pick" : Str), ("_law_pick" : Str), defArgs (top 56), FuncBody.stmts (defBody (top 56)), defScope (top 56), mainGlobals, [], builtinsNs) := by kernel_rfl
theorem at__law_pick (X : (KK w).In h) (G : h.Ns mainGlobals mg) : FnAt (KK w) mg "_law_pick" (top 56) := let ⟨fd, F, hm⟩ := fnAt_of X G (b__law_pick w) (w__law_pick w); ⟨⟨_, fd, F, hm⟩⟩
theorem b__law_heard : fnB (KK w) "_law_heard" = true := by kernel_rfl
theorem w__law_heard : He.fnW (KK w) ("_law_heard", none) = some (("_law_heard" : Str), ("_law_heard" : Str), defArgs (top 57), FuncBody.stmts (defBody (top 57)), defScope (top 57), mainGlobals, [], builtinsNs) := by kernel_rfl
theorem at__law_heard (X : (KK w).In h) (G : h.Ns mainGlobals mg) : FnAt (KK w) mg "_law_heard" (top 57) := let ⟨fd, F, hm⟩ := fnAt_of X G (b__law_heard w) (w__law_heard w); ⟨⟨_, fd, F, hm⟩⟩
theorem b__law_turn : fnB (KK w) "_law_turn" = true := by kernel_rfl
theorem w__law_turn : He.fnW (KK w) ("_law_turn", none) = some (("_law_turn" : Str), ("_law_turn" : Str), defArgs (top 58), FuncBody.stmts (defBody (top 58)), defScope (top 58), mainGlobals, [], builtinsNs) := by kernel_rfl
theorem at__law_turn (X : (KK w).In h) (G : h.Ns mainGlobals mg) : FnAt (KK w) mg "_law_turn" (top 58) := let ⟨fd, F, hm⟩ := fnAt_of X G (b__law_turn w) (w__law_turn w); ⟨⟨_, fd, F, hm⟩⟩
theorem b__law_low_ray : fnB (KK w) "_law_low_ray" = true := by kernel_rfl
theorem w__law_low_ray : He.fnW (KK w) ("_law_low_ray", none) = some (("_law_low_ray" : Str), ("_law_low_ray" : Str), defArgs (top 59), FuncBody.stmts (defBody (top 59)), defScope (top 59), mainGlobals, [], builtinsNs) := by kernel_rfl
theorem at__law_low_ray (X : (KK w).In h) (G : h.Ns mainGlobals mg) : FnAt (KK w) mg "_law_low_ray" (top 59) := let ⟨fd, F, hm⟩ := fnAt_of X G (b__law_low_ray w) (w__law_low_ray w); ⟨⟨_, fd, F, hm⟩⟩
theorem b__law_half : fnB (KK w) "_law_half" = true := by kernel_rfl
theorem w__law_half : He.fnW (KK w) ("_law_half", none) = some (("_law_half" : Str), ("_law_half" : Str), defArgs (top 60), FuncBody.stmts (defBody (top 60)), defScope (top 60), mainGlobals, [], builtinsNs) := by kernel_rfl
theorem at__law_half (X : (KK w).In h) (G : h.Ns mainGlobals mg) : FnAt (KK w) mg "_law_half" (top 60) := let ⟨fd, F, hm⟩ := fnAt_of X G (b__law_half w) (w__law_half w); ⟨⟨_, fd, F, hm⟩⟩
theorem b__law_by_angle : fnB (KK w) "_law_by_angle" = true := by kernel_rfl
theorem w__law_by_angle : He.fnW (KK w) ("_law_by_angle", none) = some (("_law_by_angle" : Str), ("_law_by_angle" : Str), defArgs (top 61), FuncBody.stmts (defBody (top 61)), defScope (top 61), mainGlobals, [], builtinsNs) := by kernel_rfl
theorem at__law_by_angle (X : (KK w).In h) (G : h.Ns mainGlobals mg) : FnAt (KK w) mg "_law_by_angle" (top 61) := let ⟨fd, F, hm⟩ := fnAt_of X G (b__law_by_angle w) (w__law_by_angle w); ⟨⟨_, fd, F, hm⟩⟩
theorem b__law_gcd : fnB (KK w) "_law_gcd" = true := by kernel_rfl
theorem w__law_gcd : He.fnW (KK w) ("_law_gcd", none) = some (("_law_gcd" : Str), ("_law_gcd" : Str), defArgs (top 62), FuncBody.stmts (defBody (top 62)), defScope (top 62), mainGlobals, [], builtinsNs) := by kernel_rfl
theorem at__law_gcd (X : (KK w).In h) (G : h.Ns mainGlobals mg) : FnAt (KK w) mg "_law_gcd" (top 62) := let ⟨fd, F, hm⟩ := fnAt_of X G (b__law_gcd w) (w__law_gcd w); ⟨⟨_, fd, F, hm⟩⟩
theorem b__law_frac : fnB (KK w) "_law_frac" = true := by kernel_rfl
theorem w__law_frac : He.fnW (KK w) ("_law_frac", none) = some (("_law_frac" : Str), ("_law_frac" : Str), defArgs (top 63), FuncBody.stmts (defBody (top 63)), defScope (top 63), mainGlobals, [], builtinsNs) := by kernel_rfl
theorem at__law_frac (X : (KK w).In h) (G : h.Ns mainGlobals mg) : FnAt (KK w) mg "_law_frac" (top 63) := let ⟨fd, F, hm⟩ := fnAt_of X G (b__law_frac w) (w__law_frac w); ⟨⟨_, fd, F, hm⟩⟩
theorem b__law_sum : fnB (KK w) "_law_sum" = true := by kernel_rfl
theorem w__law_sum : He.fnW (KK w) ("_law_sum", none) = some (("_law_sum" : Str), ("_law_sum" : Str), defArgs (top 64), FuncBody.stmts (defBody (top 64)), defScope (top 64), mainGlobals, [], builtinsNs) := by kernel_rfl
theorem at__law_sum (X : (KK w).In h) (G : h.Ns mainGlobals mg) : FnAt (KK w) mg "_law_sum" (top 64) := let ⟨fd, F, hm⟩ := fnAt_of X G (b__law_sum w) (w__law_sum w); ⟨⟨_, fd, F, hm⟩⟩
theorem b__law_is_at_most : fnB (KK w) "_law_is_at_most" = true := by kernel_rfl
theorem w__law_is_at_most : He.fnW (KK w) ("_law_is_at_most", none) = some (("_law_is_at_most" : Str), ("_law_is_at_most" : Str), defArgs (top 65), FuncBody.stmts (defBody (top 65)), defScope (top 65), mainGlobals, [], builtinsNs) := by kernel_rfl
theorem at__law_is_at_most (X : (KK w).In h) (G : h.Ns mainGlobals mg) : FnAt (KK w) mg "_law_is_at_most" (top 65) := let ⟨fd, F, hm⟩ := fnAt_of X G (b__law_is_at_most w) (w__law_is_at_most w); ⟨⟨_, fd, F, hm⟩⟩
theorem b__law_worth : fnB (KK w) "_law_worth" = true := by kernel_rfl
theorem w__law_worth : He.fnW (KK w) ("_law_worth", none) = some (("_law_worth" : Str), ("_law_worth" : Str), defArgs (top 66), FuncBody.stmts (defBody (top 66)), defScope (top 66), mainGlobals, [], builtinsNs) := by kernel_rfl
theorem at__law_worth (X : (KK w).In h) (G : h.Ns mainGlobals mg) : FnAt (KK w) mg "_law_worth" (top 66) := let ⟨fd, F, hm⟩ := fnAt_of X G (b__law_worth w) (w__law_worth w); ⟨⟨_, fd, F, hm⟩⟩
theorem b__law_points : fnB (KK w) "_law_points" = true := by kernel_rfl
theorem w__law_points : He.fnW (KK w) ("_law_points", none) = some (("_law_points" : Str), ("_law_points" : Str), defArgs (top 67), FuncBody.stmts (defBody (top 67)), defScope (top 67), mainGlobals, [], builtinsNs) := by kernel_rfl
theorem at__law_points (X : (KK w).In h) (G : h.Ns mainGlobals mg) : FnAt (KK w) mg "_law_points" (top 67) := let ⟨fd, F, hm⟩ := fnAt_of X G (b__law_points w) (w__law_points w); ⟨⟨_, fd, F, hm⟩⟩
theorem b__law_great : fnB (KK w) "_law_great" = true := by kernel_rfl
theorem w__law_great : He.fnW (KK w) ("_law_great", none) = some (("_law_great" : Str), ("_law_great" : Str), defArgs (top 68), FuncBody.stmts (defBody (top 68)), defScope (top 68), mainGlobals, [], builtinsNs) := by kernel_rfl
theorem at__law_great (X : (KK w).In h) (G : h.Ns mainGlobals mg) : FnAt (KK w) mg "_law_great" (top 68) := let ⟨fd, F, hm⟩ := fnAt_of X G (b__law_great w) (w__law_great w); ⟨⟨_, fd, F, hm⟩⟩
theorem b__law_corner : fnB (KK w) "_law_corner" = true := by kernel_rfl
theorem w__law_corner : He.fnW (KK w) ("_law_corner", none) = some (("_law_corner" : Str), ("_law_corner" : Str), defArgs (top 69), FuncBody.stmts (defBody (top 69)), defScope (top 69), mainGlobals, [], builtinsNs) := by kernel_rfl
theorem at__law_corner (X : (KK w).In h) (G : h.Ns mainGlobals mg) : FnAt (KK w) mg "_law_corner" (top 69) := let ⟨fd, F, hm⟩ := fnAt_of X G (b__law_corner w) (w__law_corner w); ⟨⟨_, fd, F, hm⟩⟩
theorem b__law_is_within : fnB (KK w) "_law_is_within" = true := by kernel_rfl
theorem w__law_is_within : He.fnW (KK w) ("_law_is_within", none) = some (("_law_is_within" : Str), ("_law_is_within" : Str), defArgs (top 70), FuncBody.stmts (defBody (top 70)), defScope (top 70), mainGlobals, [], builtinsNs) := by kernel_rfl
theorem at__law_is_within (X : (KK w).In h) (G : h.Ns mainGlobals mg) : FnAt (KK w) mg "_law_is_within" (top 70) := let ⟨fd, F, hm⟩ := fnAt_of X G (b__law_is_within w) (w__law_is_within w); ⟨⟨_, fd, F, hm⟩⟩
theorem b__law_one_right : fnB (KK w) "_law_one_right" = true := by kernel_rfl
theorem w__law_one_right : He.fnW (KK w) ("_law_one_right", none) = some (("_law_one_right" : Str), ("_law_one_right" : Str), defArgs (top 71), FuncBody.stmts (defBody (top 71)), defScope (top 71), mainGlobals, [], builtinsNs) := by kernel_rfl
theorem at__law_one_right (X : (KK w).In h) (G : h.Ns mainGlobals mg) : FnAt (KK w) mg "_law_one_right" (top 71) := let ⟨fd, F, hm⟩ := fnAt_of X G (b__law_one_right w) (w__law_one_right w); ⟨⟨_, fd, F, hm⟩⟩
theorem b__law_refused_right : fnB (KK w) "_law_refused_right" = true := by kernel_rfl
theorem w__law_refused_right : He.fnW (KK w) ("_law_refused_right", none) = some (("_law_refused_right" : Str), ("_law_refused_right" : Str), defArgs (top 72), FuncBody.stmts (defBody (top 72)), defScope (top 72), mainGlobals, [], builtinsNs) := by kernel_rfl
theorem at__law_refused_right (X : (KK w).In h) (G : h.Ns mainGlobals mg) : FnAt (KK w) mg "_law_refused_right" (top 72) := let ⟨fd, F, hm⟩ := fnAt_of X G (b__law_refused_right w) (w__law_refused_right w); ⟨⟨_, fd, F, hm⟩⟩
theorem b__law_pen : fnB (KK w) "_law_pen" = true := by kernel_rfl
theorem w__law_pen : He.fnW (KK w) ("_law_pen", none) = some (("_law_pen" : Str), ("_law_pen" : Str), defArgs (top 54), FuncBody.stmts (defBody (top 54)), defScope (top 54), mainGlobals, [], builtinsNs) := by kernel_rfl
theorem at__law_pen (X : (KK w).In h) (G : h.Ns mainGlobals mg) : FnAt (KK w) mg "_law_pen" (top 54) := let ⟨fd, F, hm⟩ := fnAt_of X G (b__law_pen w) (w__law_pen w); ⟨⟨_, fd, F, hm⟩⟩
theorem b_law : fnB (KK w) "law" = true := by kernel_rfl
theorem w_law : He.fnW (KK w) ("law", none) = some (("law" : Str), ("law" : Str), defArgs (top 73), FuncBody.stmts (defBody (top 73)), defScope (top 73), mainGlobals, [], builtinsNs) := by kernel_rfl
theorem at_law (X : (KK w).In h) (G : h.Ns mainGlobals mg) : FnAt (KK w) mg "law" (top 73) := let ⟨fd, F, hm⟩ := fnAt_of X G (b_law w) (w_law w); ⟨⟨_, fd, F, hm⟩⟩
theorem n_len (X : (KK w).In h) (G : h.Ns mainGlobals mg) : mg "len" = none := PySem.W.mg_none_of X G (by kernel_rfl)
theorem n_tuple (X : (KK w).In h) (G : h.Ns mainGlobals mg) : mg "tuple" = none := PySem.W.mg_none_of X G (by kernel_rfl)
theorem n_list (X : (KK w).In h) (G : h.Ns mainGlobals mg) : mg "list" = none := PySem.W.mg_none_of X G (by kernel_rfl)
theorem n_set (X : (KK w).In h) (G : h.Ns mainGlobals mg) : mg "set" = none := PySem.W.mg_none_of X G (by kernel_rfl)
theorem n_all (X : (KK w).In h) (G : h.Ns mainGlobals mg) : mg "all" = none := PySem.W.mg_none_of X G (by kernel_rfl)
theorem n_sum (X : (KK w).In h) (G : h.Ns mainGlobals mg) : mg "sum" = none := PySem.W.mg_none_of X G (by kernel_rfl)
theorem n_max (X : (KK w).In h) (G : h.Ns mainGlobals mg) : mg "max" = none := PySem.W.mg_none_of X G (by kernel_rfl)
theorem n_min (X : (KK w).In h) (G : h.Ns mainGlobals mg) : mg "min" = none := PySem.W.mg_none_of X G (by kernel_rfl)
theorem n_abs (X : (KK w).In h) (G : h.Ns mainGlobals mg) : mg "abs" = none := PySem.W.mg_none_of X G (by kernel_rfl)
theorem n_int (X : (KK w).In h) (G : h.Ns mainGlobals mg) : mg "int" = none := PySem.W.mg_none_of X G (by kernel_rfl)
theorem n_bool (X : (KK w).In h) (G : h.Ns mainGlobals mg) : mg "bool" = none := PySem.W.mg_none_of X G (by kernel_rfl)
theorem n_repr (X : (KK w).In h) (G : h.Ns mainGlobals mg) : mg "repr" = none := PySem.W.mg_none_of X G (by kernel_rfl)
theorem n_isinstance (X : (KK w).In h) (G : h.Ns mainGlobals mg) : mg "isinstance" = none := PySem.W.mg_none_of X G (by kernel_rfl)
theorem n_range (X : (KK w).In h) (G : h.Ns mainGlobals mg) : mg "range" = none := PySem.W.mg_none_of X G (by kernel_rfl)
theorem n_enumerate (X : (KK w).In h) (G : h.Ns mainGlobals mg) : mg "enumerate" = none := PySem.W.mg_none_of X G (by kernel_rfl)
theorem n_zip (X : (KK w).In h) (G : h.Ns mainGlobals mg) : mg "zip" = none := PySem.W.mg_none_of X G (by kernel_rfl)
theorem n_super (X : (KK w).In h) (G : h.Ns mainGlobals mg) : mg "super" = none := PySem.W.mg_none_of X G (by kernel_rfl)
end
end Rh
set_option Elab.async false
set_option linter.all false
set_option maxRecDepth 100000
set_option maxHeartbeats 0
/-! Rh: the rest of the head's facts: errors, Paper, Lots. -/
namespace Rh
open PySem L2 PySem.Spec PyProof.Rows
section
variable {K : PySem.W.Frag}
/-- a method without a closure, as it stands -/
def metB (K : PySem.W.Frag) (f : Addr) (qual : Str) : Bool := match K.lookup f with
  | some ⟨_, _, .func fd, _⟩ => noneV fd.defaults && (noneV fd.kwdefaults && PySem.W.codeIn K fd.code qual)
  | _ => false
theorem met_of {f : Addr} {cn m qual : Str} {st : Stmt} (ef : He.fAd K (cn, some m) = f) (c : metB K f qual = true) (e : He.fnW K (cn, some m) = some (m, qual, defArgs st, FuncBody.stmts (defBody st), defScope st, mainGlobals, [], builtinsNs)) :
    ∃ (doc pm cdv ct oc : Value) (an od : Option Addr) (osl : Array (Option Value)), K.lookup f = some ⟨oc, od, .func (PySem.W.fnOf m qual (defArgs st) (defBody st) (defScope st) .none .none doc pm an cdv ct), osl⟩ ∧ PySem.W.codeIn K cdv qual = true := by
  have e' : (match K.lookup (He.fAd K (cn, some m)) with
    | some ⟨_, _, .func fd, _⟩ => some (fd.name, fd.qualname, fd.params, fd.body, fd.scope, fd.globals, fd.closure, fd.builtins)
    | _ => none : He.FnW) = some (m, qual, defArgs st, FuncBody.stmts (defBody st), defScope st, mainGlobals, [], builtinsNs) := e
  rw [ef] at e'
  unfold metB at c
  cases q : K.lookup f with
  | none => rw [q] at c; cases c
  | some o =>
    obtain ⟨oc, od, dt, osl⟩ := o
    rw [q] at c e'
    cases dt with
    | func fd =>
      obtain ⟨n1, n2, n3, n4, n5, n6, n7, n8, n9, n10, n11, n12, n13, n14, n15⟩ := fd
      have e2 : (some (n1, n2, n3, n4, n5, n6, n7, n15) : He.FnW) = some (m, qual, defArgs st, FuncBody.stmts (defBody st), defScope st, mainGlobals, [], builtinsNs) := e'
      have c2 : (noneV n8 && (noneV n9 && PySem.W.codeIn K n13 qual)) = true := c
      obtain ⟨k1, k⟩ := He.ba c2
      obtain ⟨k2, k3⟩ := He.ba k
      have a8 : n8 = .none := by cases n8 <;> first | rfl | cases k1
      have a9 : n9 = .none := by cases n9 <;> first | rfl | cases k2
      simp only [Option.some.injEq, Prod.mk.injEq] at e2
      obtain ⟨h1, h2, h3, h4, h5, h6, h7, h8⟩ := e2
      subst h1 h2 h3 h4 h5 h6 h7 h8 a8 a9
      exact ⟨n10, n11, n13, n14, oc, n12, od, osl, rfl, k3⟩
    | _ => cases c
end
section
variable (w : World) {h : Heap} {mg : Str → Option Value}
noncomputable abbrev aNum : Addr := He.ga (KK w) "BadNumber"
noncomputable abbrev aVal : Addr := He.ga (KK w) "BadValue"
noncomputable abbrev aLots : Addr := He.ga (KK w) "Lots"
noncomputable abbrev aPap : Addr := He.ga (KK w) "Paper"
noncomputable def T75 : Tx where
  ca := fun n => match n with
    | 0 => aPap w
    | _ + 1 => aLots w
  fnm := fun n => match n with
    | 0 => ["word", "parts"]
    | _ + 1 => ["word", "parts", "rays", "numbers"]
  ea := fun n => match n with
    | 0 => aNum w
    | _ + 1 => aVal w
  ef := fun _ => "part"
  tb := [(628, lamQ "_law_refused_right" (top 72))]
theorem g_cls (X : (KK w).In h) (G : h.Ns mainGlobals mg) : mg "Lots" = some (.ref (aLots w)) ∧ mg "Paper" = some (.ref (aPap w)) ∧ mg "BadNumber" = some (.ref (aNum w)) ∧ mg "BadValue" = some (.ref (aVal w)) :=
  ⟨PySem.W.mg_of X G (by kernel_rfl), PySem.W.mg_of X G (by kernel_rfl), PySem.W.mg_of X G (by kernel_rfl), PySem.W.mg_of X G (by kernel_rfl)⟩
theorem g_gcd (X : (KK w).In h) (G : h.Ns mainGlobals mg) : mg "gcd" = some (.builtin "math.gcd") := PySem.W.mg_of X G (by kernel_rfl)
theorem g_most (X : (KK w).In h) (G : h.Ns mainGlobals mg) : ∃ t, mg "MOST_STORES_FAN" = some (.int 2 t) := He.int_ok X G (x := "MOST_STORES_FAN") (i := 2) (by kernel_rfl)
theorem cls_pap : Cls (KK w) (aPap w) := ⟨by kernel_rfl, by kernel_rfl, by kernel_rfl, by kernel_rfl⟩
theorem cls_lots : Cls (KK w) (aLots w) := ⟨by kernel_rfl, by kernel_rfl, by kernel_rfl, by kernel_rfl⟩
theorem il75 : IsiOk (KK w) (T75 w) where
  cls := fun c => match c with
    | 0 => ⟨cls_pap w, by kernel_rfl, by kernel_rfl, by kernel_rfl, by kernel_rfl⟩
    | _ + 1 => ⟨cls_lots w, by kernel_rfl, by kernel_rfl, by kernel_rfl, by kernel_rfl⟩
  int := fun c => match c with
    | 0 => by kernel_rfl
    | _ + 1 => by kernel_rfl
  bool := fun c => match c with
    | 0 => by kernel_rfl
    | _ + 1 => by kernel_rfl
  list := fun c => match c with
    | 0 => by kernel_rfl
    | _ + 1 => by kernel_rfl
  tuple := fun c => match c with
    | 0 => by kernel_rfl
    | _ + 1 => by kernel_rfl
noncomputable abbrev iNum : Addr := He.ma (KK w) (aNum w) "__init__"
noncomputable abbrev iVal : Addr := He.ma (KK w) (aVal w) "__init__"
noncomputable abbrev iLots : Addr := He.ma (KK w) (aLots w) "__init__"
noncomputable abbrev iPap : Addr := He.ma (KK w) (aPap w) "__init__"
theorem lk_num : (KK w).lookup (aNum w) = some (excO (KK w) (aNum w)) := by kernel_rfl
theorem lk_val : (KK w).lookup (aVal w) = some (excO (KK w) (aVal w)) := by kernel_rfl
theorem in_num : InitAt PP (KK w) (iNum w) (aNum w) "BadNumber.__init__" (inClass (top 3) 0) := init_of (P := PP) (K := KK w) (f := iNum w) (C := aNum w) (cn := "BadNumber") (qual := "BadNumber.__init__") (st := inClass (top 3) 0) rfl (by kernel_rfl) (by kernel_rfl)
theorem in_val : InitAt PP (KK w) (iVal w) (aVal w) "BadValue.__init__" (inClass (top 4) 0) := init_of (P := PP) (K := KK w) (f := iVal w) (C := aVal w) (cn := "BadValue") (qual := "BadValue.__init__") (st := inClass (top 4) 0) rfl (by kernel_rfl) (by kernel_rfl)
theorem in_lots : InitAt PP (KK w) (iLots w) (aLots w) "Lots.__init__" sLots := init_of (P := PP) (K := KK w) (f := iLots w) (C := aLots w) (cn := "Lots") (qual := "Lots.__init__") (st := sLots) rfl (by kernel_rfl) (by kernel_rfl)
theorem err_num (X : (KK w).In h) (G : h.Ns mainGlobals mg) : PySem.RhX.ErrTxt PP (KK w) mg "BadNumber" (aNum w) (iNum w) := by
  obtain ⟨oc, od, doc, pm, cda, ct, osl, cc, cl, cld, csl, ccl, cdd, vs, ccs, file, tf, lk, hcd, hcc, hcda, hv, hf⟩ := in_num w
  exact ⟨(g_cls w X G).2.2.1, ⟨_, _, _, _, _, _, _, _, _, _, _, _, _, _, _, lk_num w, by kernel_rfl, by kernel_rfl⟩, by kernel_rfl, by kernel_rfl, by kernel_rfl, by kernel_rfl, by kernel_rfl, by kernel_rfl, by kernel_rfl, by kernel_rfl, by kernel_rfl, by kernel_rfl, by kernel_rfl, by kernel_rfl, n_super w X G, by kernel_rfl,
    ⟨oc, od, doc, pm, none, cda, ct, osl, cc, "BadNumber.__init__", _, _, _, _, _, _, _, _, _, _, _, _, _, _, cl, cld, csl, ccl, cdd, vs, ccs, file, tf, lk, hcd, hcc, hcda, hv, hf, rfl⟩, by kernel_rfl⟩
theorem err_val (X : (KK w).In h) (G : h.Ns mainGlobals mg) : PySem.RhX.ErrTxt PP (KK w) mg "BadValue" (aVal w) (iVal w) := by
  obtain ⟨oc, od, doc, pm, cda, ct, osl, cc, cl, cld, csl, ccl, cdd, vs, ccs, file, tf, lk, hcd, hcc, hcda, hv, hf⟩ := in_val w
  exact ⟨(g_cls w X G).2.2.2, ⟨_, _, _, _, _, _, _, _, _, _, _, _, _, _, _, lk_val w, by kernel_rfl, by kernel_rfl⟩, by kernel_rfl, by kernel_rfl, by kernel_rfl, by kernel_rfl, by kernel_rfl, by kernel_rfl, by kernel_rfl, by kernel_rfl, by kernel_rfl, by kernel_rfl, by kernel_rfl, by kernel_rfl, n_super w X G, by kernel_rfl,
    ⟨oc, od, doc, pm, none, cda, ct, osl, cc, "BadValue.__init__", _, _, _, _, _, _, _, _, _, _, _, _, _, _, cl, cld, csl, ccl, cdd, vs, ccs, file, tf, lk, hcd, hcc, hcda, hv, hf, rfl⟩, by kernel_rfl⟩
end
end Rh
set_option Elab.async false
set_option linter.all false
set_option maxRecDepth 100000
set_option maxHeartbeats 0
/-! Rh: the rest of the head's facts; all of them. -/
namespace Rh
open PySem L2 PySem.Spec PyProof.Rows
section
variable (w : World) {h : Heap} {mg : Str → Option Value}
theorem io_lots : InsOk (KK w) (aLots w) := ⟨cls_lots w, by unfold NoAttr; kernel_rfl, by unfold NoAttr; kernel_rfl, by unfold NoAttr; kernel_rfl, by unfold NoAttr; kernel_rfl⟩
theorem io_pap : InsOk (KK w) (aPap w) := ⟨cls_pap w, by unfold NoAttr; kernel_rfl, by unfold NoAttr; kernel_rfl, by unfold NoAttr; kernel_rfl, by unfold NoAttr; kernel_rfl⟩
theorem mkk_lots : Mk (KK w) (aLots w) (iLots w) := ⟨by kernel_rfl, by kernel_rfl, by kernel_rfl, by kernel_rfl⟩
theorem mkk_pap : Mk (KK w) (aPap w) (iPap w) := ⟨by kernel_rfl, by kernel_rfl, by kernel_rfl, by kernel_rfl⟩
theorem pap_txt : PaperTxt (KK w) (iPap w) := by
  obtain ⟨doc, pm, cdv, ct, oc, an, od, osl, lk, hcd⟩ := met_of (K := KK w) (f := iPap w) (cn := "Paper") (m := "__init__") (qual := "Paper.__init__") (st := sPaper) rfl (by kernel_rfl) (by kernel_rfl)
  exact ⟨.none, .none, doc, pm, cdv, ct, oc, an, od, osl, lk, hcd, fun us rest hl => match us, hl, rest with
    | [_, _], _, [] => rfl
    | [_, _], _, _ :: _ => rfl⟩
theorem fP_o : ∃ o, (KK w).lookup (iPap w) = some o ∧ o.cls = .type "function" := by
  have e : ((KK w).lookup (iPap w)).map Obj.cls = some (.type "function") := by kernel_rfl
  obtain ⟨o, h1, h2⟩ := Option.map_eq_some_iff.mp e
  exact ⟨o, h1, h2⟩
theorem lots_cls : ∃ cd bm, PySem.W.clsIn (KK w) (aLots w) = some cd ∧ cd.mro = .ref (aLots w) :: bm ∧ PySem.W.alongIn (KK w) "__init__" bm = some (some (.ref (iPap w))) := by
  have e : (PySem.W.clsIn (KK w) (aLots w)).map ClassData.mro = some (.ref (aLots w) :: bmC (KK w) (aLots w)) := by kernel_rfl
  obtain ⟨o, h1, h2⟩ := Option.map_eq_some_iff.mp e
  exact ⟨o, bmC (KK w) (aLots w), h1, h2, by kernel_rfl⟩
theorem lots_txt (X : (KK w).In h) (G : h.Ns mainGlobals mg) : LotsTxt PP (KK w) mg (aLots w) (iLots w) (iPap w) := by
  obtain ⟨oc, od, doc, pm, cda, ct, osl, cc, cl, cld, csl, ccl, cdd, vs, ccs, file, tf, lk, hcd, hcc, hcda, hv, hf⟩ := in_lots w
  exact ⟨io_lots w, lots_cls w, fP_o w, by kernel_rfl, by kernel_rfl, n_super w X G, by kernel_rfl, ⟨oc, od, doc, pm, cda, ct, osl, cc, cl, cld, csl, ccl, cdd, vs, ccs, file, tf, lk, hcd, hcc, hcda, hv, hf⟩, by kernel_rfl⟩
theorem lots_c (X : (KK w).In h) (G : h.Ns mainGlobals mg) : ∃ C, mg "Lots" = some (.ref C) ∧ (∀ n, (["NoneType", "bool", "int", "str", "tuple", "list", "dict"].contains n) = true → PySem.W.kitOne (KK w) (.type n) (.ref C) = some false) ∧ (∀ c, ([1] : List Nat).contains c = true → PySem.W.kitOne (KK w) (.ref ((T75 w).ca c)) (.ref C) = some true) ∧ (∀ c, ([1] : List Nat).contains c = false → ([0] : List Nat).contains c = true → PySem.W.kitOne (KK w) (.ref ((T75 w).ca c)) (.ref C) = some false) := by
  have k1 : PySem.W.kitOne (KK w) (.type "NoneType") (.ref (aLots w)) = some false := by kernel_rfl
  have k2 : PySem.W.kitOne (KK w) (.type "bool") (.ref (aLots w)) = some false := by kernel_rfl
  have k3 : PySem.W.kitOne (KK w) (.type "int") (.ref (aLots w)) = some false := by kernel_rfl
  have k4 : PySem.W.kitOne (KK w) (.type "str") (.ref (aLots w)) = some false := by kernel_rfl
  have k5 : PySem.W.kitOne (KK w) (.type "tuple") (.ref (aLots w)) = some false := by kernel_rfl
  have k6 : PySem.W.kitOne (KK w) (.type "list") (.ref (aLots w)) = some false := by kernel_rfl
  have k7 : PySem.W.kitOne (KK w) (.type "dict") (.ref (aLots w)) = some false := by kernel_rfl
  have k8 : PySem.W.kitOne (KK w) (.ref ((T75 w).ca 1)) (.ref (aLots w)) = some true := by kernel_rfl
  have k9 : PySem.W.kitOne (KK w) (.ref ((T75 w).ca 0)) (.ref (aLots w)) = some false := by kernel_rfl
  refine ⟨aLots w, (g_cls w X G).1, fun n hn => ?_, fun c hc => ?_, fun c _ hc => ?_⟩
  · simp only [List.contains_cons, List.contains_nil, Bool.or_false, Bool.or_eq_true, beq_iff_eq] at hn
    rcases hn with rfl | rfl | rfl | rfl | rfl | rfl | rfl
    · exact k1
    · exact k2
    · exact k3
    · exact k4
    · exact k5
    · exact k6
    · exact k7
  · simp only [List.contains_cons, List.contains_nil, Bool.or_false, beq_iff_eq] at hc
    subst hc; exact k8
  · simp only [List.contains_cons, List.contains_nil, Bool.or_false, beq_iff_eq] at hc
    subst hc; exact k9
noncomputable abbrev aRE : Addr := He.ga (KK w) "RoundError"
noncomputable abbrev aCal : Addr := He.ga (KK w) "BadCalendar"
noncomputable abbrev aYard : Addr := He.ga (KK w) "BadYard"
noncomputable abbrev aRw : Addr := He.ga (KK w) "BadRow"
theorem heard_t (X : (KK w).In h) (G : h.Ns mainGlobals mg) : Hrd (KK w) mg (aRE w) (aCal w) (aYard w) (aRw w) (aNum w) (aVal w) where
  gR := PySem.W.mg_of X G (by kernel_rfl)
  gC := PySem.W.mg_of X G (by kernel_rfl)
  gY := PySem.W.mg_of X G (by kernel_rfl)
  gW := PySem.W.mg_of X G (by kernel_rfl)
  gN := (g_cls w X G).2.2.1
  gV := (g_cls w X G).2.2.2
  isi := n_isinstance w X G
  exN := by kernel_rfl
  exV := by kernel_rfl
  nC := by kernel_rfl
  nY := by kernel_rfl
  nW := by kernel_rfl
  nN := by kernel_rfl
  vC := by kernel_rfl
  vY := by kernel_rfl
  vW := by kernel_rfl
  vN := by kernel_rfl
  vV := by kernel_rfl
  eN := ⟨by kernel_rfl, by kernel_rfl, by kernel_rfl, by kernel_rfl, by kernel_rfl, by kernel_rfl, by kernel_rfl, by kernel_rfl⟩
  eV := ⟨by kernel_rfl, by kernel_rfl, by kernel_rfl, by kernel_rfl, by kernel_rfl, by kernel_rfl, by kernel_rfl, by kernel_rfl⟩
  fN := ⟨by kernel_rfl, by kernel_rfl, by kernel_rfl, by kernel_rfl⟩
  fV := ⟨by kernel_rfl, by kernel_rfl, by kernel_rfl, by kernel_rfl⟩
  pN := by kernel_rfl
  pV := by kernel_rfl
def dRow : He.DefD := ⟨(("is_row" : Str), none), "is_row", "is_row", defArgs (top 16), defBody (top 16), defScope (top 16), List.replicate 2 He.Dv.non, []⟩
theorem w_row : He.fnW (KK w) dRow.at_ = dRow.val := by kernel_rfl
theorem k_row : dRow.ok (KK w) = true := by kernel_rfl
theorem g_row : (He.Fa.glo "is_row").ok (KK w) = true := by kernel_rfl
theorem at_row (X : (KK w).In h) (G : h.Ns mainGlobals mg) : FnDAt (KK w) mg "is_row" (top 16) 2 := fnDAt_of X G rfl (w_row w) (k_row w) (g_row w)
theorem nd4 : (["word", "parts", "rays", "numbers"] : List Str).Nodup := by decide +kernel
end
end Rh
set_option Elab.async false
set_option linter.all false
set_option maxRecDepth 100000
set_option maxHeartbeats 0
/-! Rh: the head's facts as a whole; the end. -/
namespace Rh
open PySem L2 PySem.Spec PyProof.Rows
theorem hd75 (w : World) {h : Heap} {mg : Str → Option Value} {base : Heap} (X : (KK w).In h) (G : h.Ns mainGlobals mg) : Hd PP w (KK w) mg base (T75 w) where
  len := n_len w X G
  tuple := n_tuple w X G
  list := n_list w X G
  set := n_set w X G
  all := n_all w X G
  sum := n_sum w X G
  max := n_max w X G
  min := n_min w X G
  abs := n_abs w X G
  int := n_int w X G
  bool := n_bool w X G
  repr := n_repr w X G
  isinstance := n_isinstance w X G
  range := n_range w X G
  enumerate := n_enumerate w X G
  zip := n_zip w X G
  gcd := g_gcd w X G
  most := g_most w X G
  il := il75 w
  err0 := ⟨_, err_num w X G⟩
  err1 := ⟨_, err_val w X G⟩
  ef0 := rfl
  ef1 := rfl
  fld1 := ⟨cls_lots w, (io_lots w).np, rfl, nd4⟩
  fld2 := ⟨cls_lots w, (io_lots w).nr, rfl, nd4⟩
  fld3 := ⟨cls_lots w, (io_lots w).nn, rfl, nd4⟩
  f_is_integer := at_is_integer w X G
  f_is_within := at_is_within w X G
  f_is_listed := at_is_listed w X G
  f_is_row := at_row w X G
  f_need_number := at_need_number w X G
  f_need_value := at_need_value w X G
  f_fixed := at_fixed w X G
  f_is_fraction := at_is_fraction w X G
  f_are_fractions := at_are_fractions w X G
  f_lowest_of := at_lowest_of w X G
  f_plus := at_plus w X G
  f_times := at_times w X G
  f_shared_bottom := at_shared_bottom w X G
  f_over_it := at_over_it w X G
  f_turn_of := at_turn_of w X G
  f_quarter_of := at_quarter_of w X G
  f_is_ahead := at_is_ahead w X G
  f_by_angle := at_by_angle w X G
  f_neighbours := at_neighbours w X G
  f_is_lowest := at_is_lowest w X G
  f_are_rays := at_are_rays w X G
  f_threes := at_threes w X G
  f_bulge := at_bulge w X G
  f_are_round := at_are_round w X G
  f_are_all_round := at_are_all_round w X G
  f_is_formed := at_is_formed w X G
  f_worth_by := at_worth_by w X G
  f_corner_at := at_corner_at w X G
  f_need_lots := at_need_lots w X G
  f_is_in := at_is_in w X G
  f_corners := at_corners w X G
  f_widths := at_widths w X G
  f_middle := at_middle w X G
  f_law_draw := at__law_draw w X G
  f_law_pick := at__law_pick w X G
  f_law_heard := at__law_heard w X G
  f_law_turn := at__law_turn w X G
  f_law_low_ray := at__law_low_ray w X G
  f_law_half := at__law_half w X G
  f_law_by_angle := at__law_by_angle w X G
  f_law_gcd := at__law_gcd w X G
  f_law_frac := at__law_frac w X G
  f_law_sum := at__law_sum w X G
  f_law_is_at_most := at__law_is_at_most w X G
  f_law_worth := at__law_worth w X G
  f_law_points := at__law_points w X G
  f_law_great := at__law_great w X G
  f_law_corner := at__law_corner w X G
  f_law_is_within := at__law_is_within w X G
  f_law_one_right := at__law_one_right w X G
  f_law_refused_right := at__law_refused_right w X G
  lotsC := lots_c w X G
  lotsT := ⟨aLots w, iLots w, iPap w, lots_txt w X G, mkk_lots w, rfl, rfl, (g_cls w X G).1, pap_txt w⟩
  paperT := ⟨aPap w, iPap w, io_pap w, mkk_pap w, rfl, rfl, (g_cls w X G).2.1, pap_txt w⟩
  heardT := ⟨_, _, _, _, _, _, heard_t w X G, rfl, rfl⟩
noncomputable abbrev cRef (w : World) : Addr := codeOf (KK w) "_law_refused_right"
theorem ref_at (w : World) {h : Heap} {mg : Str → Option Value} (X : (KK w).In h) (G : h.Ns mainGlobals mg) : FnCAt (KK w) mg "_law_refused_right" (top 72) (cRef w) := by
  refine fnCAt_of X G (b__law_refused_right w) (w__law_refused_right w) ?_
  have e : decide (codeOf (KK w) "_law_refused_right" = 0) = false := by kernel_rfl
  exact of_decide_eq_false e
theorem room20 : Room 20 callerA := ⟨rfl, by decide, by decide⟩
theorem bits_sz {z : Int} (h : Builtin.Int.intBits z ≤ 1048576) : Sz bigN z := by
  have h2 : z.natAbs.log2 < bigN := by
    unfold Builtin.Int.intBits at h
    unfold bigN
    split at h
    · rename_i e
      rw [beq_iff_eq.mp e]; decide
    · omega
  exact lt_two_pow_of_log2_lt h2
theorem scene75 (w : World) {mg mb : Str → Option Value} {a : Addr} {vs : List Value} {ns : List Int} {s : Shared} (X : (KK w).In s.heap) (t : s.heap.get? 628 = some (PySem.W.tabObj #[])) (G : s.heap.Ns mainGlobals mg) (B : s.heap.Ns builtinsNs mb) (bbo : ∀ x : Str, x ≠ "__name__" → mb x = bootBuiltins x) (lim : s.heap.NoLimit) (hg : s.gens = #[])
    (bm : ∃ (m : Addr) (ob : Obj), mg "__builtins__" = some (.ref m) ∧ m ≠ builtinsNs ∧ s.heap.get? m = some ob ∧ ob.cls = .type "module" ∧ ob.dict = some builtinsNs ∧ ob.data = .plain) (scr : s.heap.get? a = some { cls := .type "list", data := .seq vs.toArray }) (hi : IntsAre vs ns) (hl : ns.length ≤ 63) : Scene (KK w) mg mb a (cRef w) 628 vs ns s :=
  ⟨X, G, B, bbo, lim, hg, t, by kernel_rfl, PySem.W.codeHd_of_K X (by kernel_rfl), bm, scr, hi, hl⟩
theorem call75 (w : World) {mg mb : Str → Option Value} {fa a : Addr} {vs : List Value} {ns : List Int} {s : Shared} (S : Scene (KK w) mg mb a (cRef w) 628 vs ns s) (hm : mg "law" = some (.ref fa)) (hb : ∀ z ∈ ns, Builtin.Int.intBits z ≤ 1048576) :
    codeAny (model PP w) callerA (.call (.ref fa) ⟨[.ref a], []⟩) (fun r s' => r = .ok (.ret (.bool true)) ∧ OldK s.heap s'.heap ∧ s'.os = s.os ∧ AllBare s'.gens) s := by
  obtain ⟨⟨f, fd, F, hf⟩⟩ := at_law w S.kin S.glob
  obtain rfl : f = fa := by
    rw [hf] at hm
    cases hm; rfl
  have bnd := (F.binds (ps := ["script"]) fun _ _ _ _ _ _ us hl => match us, hl with | [_], _ => rfl) s [.ref a] S.kin rfl
  refine S.call (k := 20) (fd := fd) (x := "script") (sp := spLawG (KK w) (T75 w)) room20 (law_G (hd75 w S.kin S.glob) (at__law_pen w S.kin S.glob) (ref_at w S.kin S.glob) S.hidT' (List.mem_singleton.mpr rfl) (fun q hq _ => by rw [List.mem_singleton.mp hq]) F) bnd ⟨a, ns, rfl, S.sql, S.len, fun n hn => bits_sz (hb n hn), fun q hq => ?_, fun _ => rfl⟩
  rw [List.mem_singleton.mp hq]
  exact LamX.TabS.nil hz_tab
end Rh
open PySem PySem.W PyProof.Rows
theorem PySem.Challenge.cw_roundsheld_k75_points_of_lots_holds : PySem.Challenge.rw_roundsheld_k75_points_of_lots.Holds := by
  refine head75 ?_
  refine Att.attach_callB (n := 63) rfl rfl fun w s₀ s₁ mg mb fa o pm cd doc a vs ns G Y ho hd hcd hmg hobj hints hlen hbits hg => ?_
  have X := km_in_of Y
  have t := km_tabs_of Y 628 (List.mem_singleton.mpr rfl)
  exact Rh.call75 w (Rh.scene75 w X t G.T.g G.T.b G.T.builtins G.T.nolimit hg G.T.bmain hobj hints hlen) hmg hbits
