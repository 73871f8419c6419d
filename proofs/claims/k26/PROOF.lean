import PyProof.Rows.All
import Wide.All
import OpenK.AllK
import Wide.FinOn
import HandS.ForMost
import HandS.TupSets
import KE.SortData
import KE.DataMinMax
import HandS.Exc
import HandS.TryOnly
import HandS.WordsExc
import HandS.Lambda
import HandS.DictComp
import HandS.TupAny
import HandS.List
import HandS.TupLe
import HandS.Deep
import HandS.Iter
import HandS.Text
import KE.Datum
import PyProof.Rows.NestShow
import HandS.Comp
import HandS.IsInst
import HandS.Flow
import HandS.Zip
import KE.GoesNew
import KE.GoesMore
import HandS.Strs
import KE.DataEq
import HandS.ExcOwn
import HandS.EndTab
import HandS.Words
import HandS.Defaults
import HandS.Head0
import HandS.Head1
import HandS.Head2
import HandS.HeadEnd
import HandS.HeadHook1
import HandS.HeadHook2
import HandS.HeadHook3
import HandS.HeadHook4
import KE.KStateDown
import KE.KNestM
import PyProof.ExcBaseAll.ValueError
import PyProof.StrLawsRepr
import PySem.Challenge.RW_watchhalls_k26_words_of_nets
set_option Elab.async false
set_option linter.all false
set_option maxRecDepth 100000
/-! Wh, part A: values as plain data, our own small syntax, and what it computes. -/
namespace Wh
open PySem

/-- plain values -/
inductive D where
  | non | bl (b : Bool) | int (i : Int) | str (s : Str)
  | tup (l : List D) | lst (l : List D) | dct (l : List (L2.Key × D)) | set (l : List D)
  | fn (f : Nat) | bag | pr (l : List D)
  deriving Inhabited

mutual
/-- no list, dict or set within -/
def D.flat : D → Bool
  | .tup l => D.flatL l
  | .pr l => D.flatL l
  | .lst _ => false
  | .dct _ => false
  | .set _ => false
  | _ => true
def D.flatL : List D → Bool
  | [] => true
  | d :: r => d.flat && D.flatL r
end
mutual
/-- it is what the library calls data -/
def D.isP : D → Bool
  | .non => true | .bl _ => true | .int _ => true | .str _ => true
  | .tup l => D.isPL l
  | .lst l => D.isPL l
  | _ => false
def D.isPL : List D → Bool
  | [] => true
  | d :: r => d.isP && D.isPL r
end
mutual
def D.toP : D → PyData
  | .non => .none | .bl b => .bool b | .int i => .int i | .str s => .str s
  | .tup l => .tuple (D.toPL l)
  | .lst l => .list (D.toPL l)
  | _ => .none
def D.toPL : List D → List PyData
  | [] => []
  | d :: r => d.toP :: D.toPL r
end
mutual
def D.dep : D → Nat
  | .tup l => D.depL l + 1
  | .lst l => D.depL l + 1
  | _ => 0
def D.depL : List D → Nat
  | [] => 0
  | d :: r => max d.dep (D.depL r)
end

/-- how a value is held: D: all that can change in it is new and its own; R: the root alone is; S: shared, never changed any more; BR, BD: lent by a name of the frame -/
inductive Fl where | D | R | S | BR | BD
  deriving DecidableEq, Inhabited
inductive Md where | S | R | D
  deriving DecidableEq, Inhabited
structure RV where
  d : D
  f : Fl
  deriving Inhabited

structure Bag where
  big : Int
  seed : Int
  at_ : Nat
  cells : List Int
  deriving Inhabited, DecidableEq

structure Exn where
  c : Nat
  args : List D
  deriving Inhabited

inductive Res (α : Type) where
  | ok (a : α) (B : Bag) | exc (x : Exn) (B : Bag) | st
  deriving Inhabited
def Res.bind {α β : Type} : Res α → (α → Bag → Res β) → Res β
  | .ok a B, f => f a B
  | .exc x B, _ => .exc x B
  | .st, _ => .st

abbrev Env := List (Option (Md × D))
def Env.get (δ : Env) (i : Nat) : Option (Md × D) := match δ[i]? with
  | some x => x
  | none => none
def Env.put (δ : Env) (i : Nat) (m : Md) (d : D) : Env := δ.set i (some (m, d))
def Env.wipe (δ : Env) : List Nat → Env
  | [] => δ
  | i :: r => (Env.wipe δ r).set i none

inductive O2 where
  | add | sub | mul | mod | fdiv | pow | eq | ne | lt | le | gt | ge | isin | notin | is_ | isnot
  deriving DecidableEq, Inhabited
inductive Bi where
  | sset | len | tuple | list | sorted | repr | int | abs | min | max | sum | any | all
  deriving DecidableEq, Inhabited
inductive Ty where | int | bool | str | tuple | list | dict
  deriving DecidableEq, Inhabited
inductive Me where | index | get | keys
  deriving DecidableEq, Inhabited
inductive Tg where
  | n (i : Nat)
  | tup (l : List Nat)
  deriving Inhabited

mutual
inductive E where
  | v (i : Nat)
  | k (d : D)
  | gc (j : Nat) (d : D)
  | fn (f : Nat)
  | tup (l : EL) | lst (l : EL)
  | o2 (o : O2) (a b : E)
  | ch (o p : O2) (a b c : E)
  | neg (a : E) | nt (a : E) | an (l : EL) | or (l : EL) | ife (t a b : E)
  | ix (a i : E)
  | sl (a : E) (lo hi : OE)
  | call (f : Nat) (l : EL)
  | bi (b : Bi) (l : EL)
  | isi (a : E) (t : Ty)
  | me (m : Me) (a : E) (l : EL)
  | cv (a : E) (l : EL)
  | comp (ws : List Nat) (elt : E) (g : GL)
  | dcomp (ws : List Nat) (key val : E) (g : GL)
  | bg (x j : Nat)
  | heard (f c : Nat) (e : E)
inductive EL where
  | nil | cons (e : E) (r : EL)
inductive OE where
  | none | some (e : E)
inductive Src where
  | v (i : Nat) | e (a : E) | rng (l : EL) | zip (l : EL) | enum (a : E)
inductive GL where
  | one (t : Tg) (s : Src) (c : EL)
  | two (t : Tg) (s : Src) (c : EL) (ws : List Nat) (t2 : Tg) (s2 : Src) (c2 : EL)
end
instance : Inhabited E := ⟨.k .non⟩

/-- a key's number or text -/
def keyOf : D → Option L2.Key
  | .int i => some (.inl i)
  | .str s => some (.inr s)
  | _ => none
def dGet (l : List (L2.Key × D)) (k : L2.Key) : Option D := (l.find? fun q => decide (q.1 = k)).map (·.2)
/-- in its place, or behind all -/
def dPut (l : List (L2.Key × D)) (k : L2.Key) (d : D) : List (L2.Key × D) := if (l.any fun q => decide (q.1 = k)) = true then l.map (fun q => if q.1 = k then (q.1, d) else q) else l ++ [(k, d)]
/-! ### what the operations compute -/
def allFlat (l : List D) : Bool := D.flatL l
/-- of a value read out of another -/
def flagC (f : Fl) (d : D) : Option RV :=
  if d.flat then some ⟨d, .D⟩ else match f with
    | .BD => none
    | _ => some ⟨d, .S⟩
/-- of a new list whose items come out of another -/
def flagN (f : Fl) (l : List D) (d : D) : Option RV :=
  if D.flatL l then some ⟨d, .D⟩ else match f with
    | .BD => none
    | _ => some ⟨d, .R⟩
/-- of a new tuple whose items come out of another -/
def flagT (f : Fl) (l : List D) : Option RV :=
  if D.flatL l then some ⟨.tup l, .D⟩ else match f with
    | .BD => none
    | _ => some ⟨.tup l, .S⟩
def plain (d : D) : Option RV := some ⟨d, .D⟩
/-- of what holds a tuple: lent is lent as a whole -/
def tf : Fl → Fl
  | .BR => .BD
  | f => f
def Fl.lent : Fl → Bool
  | .BR => true | .BD => true | _ => false
def strIn (a b : Str) : Bool := !(Builtin.Str.occurrences b a 0 b.length 1).isEmpty
def D.isNon : D → Bool
  | .non => true
  | _ => false
def okP (d : D) : Bool := d.isP && decide (d.dep ≤ 60)

def truth : D → Option Bool
  | .non => some false
  | .bl b => some b
  | .int i => some (i != 0)
  | .str s => if s.length ≤ 1000000 then some (s.length != 0) else none
  | .tup l => some (!l.isEmpty)
  | .lst l => some (!l.isEmpty)
  | _ => none
def eqD (a b : D) : Bool := PyData.eqv a.toP b.toP
def inL (x : D) (l : List D) : Bool := l.any fun y => eqD y x
def ltD (a b : D) : Bool := W.dataLt a.toP b.toP

def cutL {α : Type} (xs : List α) (lo hi : Option Int) : List α := (xs.drop (HT.sIx xs.length 0 lo)).take (HT.sIx xs.length xs.length hi - HT.sIx xs.length 0 lo)

def o2F (o : O2) (x y : RV) : Option RV :=
  match o with
  | .add => match x.d, y.d with
    | .int a, .int b => plain (.int (a + b))
    | .str a, .str b => if a.length + b.length ≤ 1000000 then plain (.str (a ++ b)) else none
    | .tup a, .tup b => if a.length + b.length ≤ 1000000 then flagT (if x.f.lent || y.f.lent then .BD else .S) (a ++ b) else none
    | .lst a, .lst b => if a.length + b.length ≤ 1000000 then flagN (if x.f = .BD ∨ y.f = .BD then .BD else .S) (a ++ b) (.lst (a ++ b)) else none
    | _, _ => none
  | .sub => match x.d, y.d with
    | .int a, .int b => plain (.int (a - b))
    | _, _ => none
  | .mul => match x.d, y.d with
    | .int a, .int b => if (-(2 ^ 64) < a ∧ a < 2 ^ 64) ∨ (-(2 ^ 64) < b ∧ b < 2 ^ 64) then plain (.int (a * b)) else none
    | _, _ => none
  | .mod => match x.d, y.d with
    | .int a, .int b => if b = 0 then none else plain (.int (a.fmod b))
    | _, _ => none
  | .fdiv => match x.d, y.d with
    | .int a, .int b => if b ≠ 0 ∧ b.natAbs < 1073741824 then plain (.int (a.fdiv b)) else none
    | _, _ => none
  | .pow => match x.d, y.d with
    | .int a, .int b => if 0 ≤ b ∧ b ≤ 1000000 ∧ a.natAbs < 2 ^ 64 then plain (.int (a ^ b.toNat)) else none
    | _, _ => none
  | .eq => if okP x.d && okP y.d then plain (.bl (eqD x.d y.d)) else none
  | .ne => if okP x.d && okP y.d then plain (.bl (!eqD x.d y.d)) else none
  | .lt => match x.d, y.d with
    | .int a, .int b => plain (.bl (decide (a < b)))
    | _, _ => none
  | .le => match x.d, y.d with
    | .int a, .int b => plain (.bl (decide (a ≤ b)))
    | _, _ => none
  | .gt => match x.d, y.d with
    | .int a, .int b => plain (.bl (decide (b < a)))
    | _, _ => none
  | .ge => match x.d, y.d with
    | .int a, .int b => plain (.bl (decide (b ≤ a)))
    | _, _ => none
  | .isin => match y.d with
    | .lst l => if okP x.d && okP y.d then plain (.bl (inL x.d l)) else none
    | .tup l => if okP x.d && okP y.d then plain (.bl (inL x.d l)) else none
    | .str b => match x.d with
      | .str a => plain (.bl (strIn a b))
      | _ => none
    | _ => none
  | .notin => match y.d with
    | .lst l => if okP x.d && okP y.d then plain (.bl (!inL x.d l)) else none
    | .tup l => if okP x.d && okP y.d then plain (.bl (!inL x.d l)) else none
    | .str b => match x.d with
      | .str a => plain (.bl (!strIn a b))
      | _ => none
    | _ => none
  | .is_ => match y.d with
    | .non => plain (.bl x.d.isNon)
    | _ => none
  | .isnot => match y.d with
    | .non => plain (.bl (!x.d.isNon))
    | _ => none

def ixF (x i : RV) : Option RV :=
  match x.d, i.d with
  | .tup l, .int k => match L2.atI l k with
    | some d => flagC (tf x.f) d
    | none => none
  | .lst l, .int k => match L2.atI l k with
    | some d => flagC x.f d
    | none => none
  | .dct l, i => match keyOf i with
    | some k => match dGet l k with
      | some d => plain d
      | none => none
    | none => none
  | .str s, .int k => if s.length ≤ 100000 then match L2.atI s.cps.toList k with
    | some c => plain (.str ⟨#[c]⟩)
    | none => none
    else none
  | _, _ => none

def slF (x : RV) (lo hi : Option Int) : Option RV :=
  match x.d with
  | .tup l => flagT (tf x.f) (cutL l lo hi)
  | .lst l => flagN x.f (cutL l lo hi) (.lst (cutL l lo hi))
  | _ => none

def items : D → Option (List D)
  | .tup l => some l
  | .lst l => some l
  | _ => none
def intsOf : List D → Option (List Int)
  | [] => some []
  | .int i :: r => match intsOf r with
    | some l => some (i :: l)
    | none => none
  | _ => none

def boolsOf : List D → Option (List Bool)
  | [] => some []
  | .bl i :: r => match boolsOf r with
    | some l => some (i :: l)
    | none => none
  | _ => none
def maxL : List Int → Option Int
  | [] => none
  | n :: r => some (r.foldl max n)
def minL : List Int → Option Int
  | [] => none
  | n :: r => some (r.foldl min n)
def leD (a b : D) : Bool := W.dataLe false D.toP a b
/-- what can be set in order: all of one form, without None, all tuples with an item or no tuple -/
def srtOk (l : List D) : Bool := (l.all fun d => l.all fun e => W.alike d.toP e.toP) && ((l.all fun d => match d with
    | .tup (_ :: _) => true
    | _ => false) || (l.all fun d => match d with
    | .tup _ => false
    | .non => false
    | _ => true)) && (l.all fun d => decide (d.dep ≤ 60)) && D.flatL l && D.isPL l && decide (l.length ≤ 1000000)
mutual
/-- of one form, so that < is told place by place -/
def alikeD : D → D → Bool
  | .int _, .int _ => true
  | .bl _, .bl _ => true
  | .str _, .str _ => true
  | .non, .non => true
  | .tup a, .tup b => alikeDL a b
  | .lst a, .lst b => alikeDL a b
  | _, _ => false
def alikeDL : List D → List D → Bool
  | [], _ => true
  | _ :: _, [] => true
  | a :: r, b :: q => alikeD a b && alikeDL r q
end

/-- rows of numbers -/
def rowsOf : List D → Option (List (List Int))
  | [] => some []
  | .tup l :: r => match intsOf l, rowsOf r with
    | some a, some b => some (a :: b)
    | _, _ => none
  | _ => none
/-- each row once -/
def once : List (List Int) → List (List Int)
  | [] => []
  | x :: r => if r.contains x then once r else x :: once r
/-- the rows of a set, in order: fewer than 64, all of one length, of numbers below 1000 -/
def ssetF (l : List D) : Option (List D) := match rowsOf l with
  | some rows => if rows.length < 64 ∧ (rows.all fun r => decide (r.length = max 1 ((rows.head?).getD [0]).length) && r.all fun i => decide (0 ≤ i) && decide (i < 1000)) = true then
      some (((once rows).mergeSort fun a b => decide (TS.code 1000 a ≤ TS.code 1000 b)).map fun r => .tup (r.map D.int)) else none
  | none => none
def biF (b : Bi) (xs : List RV) : Option RV :=
  match b, xs with
  | .sset, [x] => match x.d with
    | .lst l => match ssetF l with
      | some r => plain (.lst r)
      | none => none
    | _ => none
  | .len, [x] => match x.d with
    | .tup l => plain (.int l.length)
    | .lst l => plain (.int l.length)
    | .str s => if s.length ≤ 100000 then plain (.int s.length) else none
    | _ => none
  | .tuple, [x] => match x.d with
    | .tup l => if D.flatL l then plain (.tup l) else none
    | .lst l => flagT x.f l
    | _ => none
  | .list, [x] => match x.d with
    | .tup l => flagN (tf x.f) l (.lst l)
    | .lst l => flagN x.f l (.lst l)
    | _ => none
  | .abs, [x] => match x.d with
    | .int i => plain (.int (if i < 0 then -i else i))
    | _ => none
  | .int, [x] => match x.d with
    | .int i => plain (.int i)
    | _ => none
  | .sorted, [x] => match x.d with
    | .lst l => if srtOk l then plain (.lst (l.mergeSort leD)) else none
    | _ => none
  | .sum, [x] => match x.d with
    | .lst l => match intsOf l with
      | some ns => plain (.int ns.sum)
      | none => none
    | _ => none
  | .max, [x] => match x.d with
    | .lst l => match intsOf l with
      | some ns => match maxL ns with
        | some m => plain (.int m)
        | none => none
      | none => none
    | _ => none
  | .min, [x] => match x.d with
    | .lst l => match intsOf l with
      | some ns => match minL ns with
        | some m => plain (.int m)
        | none => none
      | none => none
    | _ => none
  | .any, [x] => match x.d with
    | .lst l => match boolsOf l with
      | some bs => plain (.bl (bs.any id))
      | none => none
    | _ => none
  | .all, [x] => match x.d with
    | .lst l => match boolsOf l with
      | some bs => plain (.bl (bs.all id))
      | none => none
    | _ => none
  | .repr, [x] => if okP x.d ∧ x.d.toP.showable = true ∧ x.d.toP.shown.length ≤ 1000000 then plain (.str x.d.toP.shown) else none
  | _, _ => none

/-! ### expressions -/
abbrev Cs := Nat → List D → Bag → Res RV
def callR (C : Cs) (f : Nat) (xs : List RV) (B : Bag) : Res RV :=
  match C f (xs.map (·.d)) B with
  | .ok r B' => if r.d.flat then .ok ⟨r.d, .D⟩ B' else match r.f with
    | .D => .ok r B'
    | .R => if xs.any (fun x => x.f.lent) then .st else .ok r B'
    | .S => if xs.any (fun x => x.f.lent) then .st else .ok r B'
    | _ => .st
  | .exc x B' => .exc x B'
  | .st => .st
def noexc {α : Type} : Res α → Res α
  | .exc _ _ => .st
  | r => r
def slot (δ : Env) (i : Nat) : Option RV := match δ.get i with
  | some (m, d) => some ⟨d, if d.flat then .D else match m with | .S => .S | .R => .BR | .D => .BD⟩
  | none => none
/-- how a stored value is held from then on -/
def mdOf (r : RV) : Option Md := if r.d.flat then some .S else match r.f with
  | .D => some .D | .R => some .R | .S => some .S | _ => none
def asgL : List Nat → List D → Fl → Env → Option Env
  | [], [], _, δ => some δ
  | i :: is, d :: ds, f, δ => match mdOf ⟨d, f⟩ with
    | some m => asgL is ds f (δ.put i m d)
    | none => none
  | _, _, _, _ => none
def asgTg (t : Tg) (r : RV) (δ : Env) : Option Env := match t with
  | .n i => match mdOf r with
    | some m => some (δ.put i m r.d)
    | none => none
  | .tup is => match r.d with
    | .tup ds => asgL is ds (match r.f with | .D => .D | .BD => .BD | .BR => .BD | _ => .S) δ
    | .pr ds => asgL is ds (match r.f with | .D => .D | .BD => .BD | .BR => .BD | _ => .S) δ
    | _ => none
def compGo (f : D → Bag → Res (List RV)) : List D → Bag → Res (List RV)
  | [], B => .ok [] B
  | d :: r, B => (noexc (f d B)).bind fun xs B => (compGo f r B).bind fun ys B => .ok (xs ++ ys) B
/-- no more than so many -/
def cap : Res (List RV) → Res (List RV)
  | .ok l B => if l.length ≤ 1000000 then .ok l B else .st
  | r => r
def flagL (l : List RV) : Option RV :=
  if 1000000 < l.length then none
  else if l.all (fun r => decide (r.f = .D)) then some ⟨.lst (l.map (·.d)), .D⟩
  else if l.any (fun r => r.f.lent) then none else some ⟨.lst (l.map (·.d)), .R⟩
def flagU (l : List RV) : Option RV :=
  if 1000000 < l.length then none
  else if l.all (fun r => decide (r.f = .D)) then some ⟨.tup (l.map (·.d)), .D⟩
  else if l.any (fun r => r.f.lent) then none else some ⟨.tup (l.map (·.d)), .S⟩
def opt {α : Type} (o : Option α) (B : Bag) : Res α := match o with
  | some a => .ok a B
  | none => .st
def itemsR (r : RV) : Option (List D) := match r.d with
  | .lst l => if D.flatL l then some l else match r.f with
    | .BD => none
    | _ => some l
  | .tup l => if D.flatL l then some l else match tf r.f with
    | .BD => none
    | _ => some l
  | _ => none
/-- a text's signs, one by one -/
def strL (s : Str) : List D := s.cps.toList.map fun c => .str ⟨#[c]⟩
def itemsW (r : RV) : Option (List D) := match r.d with
  | .str s => some (strL s)
  | _ => itemsR r
def rangeL (lo : Int) (n : Nat) : List D := (List.range n).map fun (k : Nat) => D.int (lo + (k : Int))
def rngF (xs : List RV) : Option (List D) := match xs with
  | [x] => match x.d with
    | .int n => if -1000000 ≤ n ∧ n ≤ 1000000 then some (rangeL 0 n.toNat) else none
    | _ => none
  | [x, y] => match x.d, y.d with
    | .int a, .int n => if -1000000 ≤ a ∧ a ≤ 1000000 ∧ -1000000 ≤ n ∧ n ≤ 1000000 then some (rangeL a (n - a).toNat) else none
    | _, _ => none
  | _ => none
/-- what the bag holds at a place -/
def bagAt (B : Bag) : Nat → Option RV
  | 0 => plain (.int B.big)
  | 1 => plain (.int B.seed)
  | 2 => plain (.int (B.at_ : Int))
  | 3 => some ⟨.lst (B.cells.map D.int), .BD⟩
  | _ => none
/-- the bag with another number at a place -/
def bagSet (B : Bag) (j : Nat) (d : D) : Option Bag := match j, d with
  | 0, .int i => if 0 ≤ i then some { B with big := i } else none
  | 1, .int i => if 0 ≤ i ∧ i < 2147483647 then some { B with seed := i } else none
  | 2, .int i => if 0 ≤ i then some { B with at_ := i.toNat } else none
  | _, _ => none
/-- a dict of what is told in couples -/
def dctOf : List RV → List (L2.Key × D) → Option (List (L2.Key × D))
  | [], l => some l
  | ⟨.pr [a, b], _⟩ :: r, l => match keyOf a with
    | some k => if b.flat then dctOf r (dPut l k b) else none
    | none => none
  | _, _ => none
def told : Str := Str.ofString "told"
def nothing_ : Str := Str.ofString "nothing"
def isLst : D → Bool
  | .lst _ => true
  | _ => false
def zipF (xs : List RV) : Option (List D) := match xs with
  | [x, y] => match itemsR x, itemsR y with
    | some a, some b => if isLst x.d = isLst y.d then some ((a.zip b).map fun p => .pr [p.1, p.2]) else none
    | _, _ => none
  | _ => none
def enumL (ds : List D) : List D := ((List.range ds.length).zip ds).map fun p => .pr [.int (p.1 : Int), p.2]
def enumF (x : RV) : Option (List D) := match itemsR x with
  | some l => some (enumL l)
  | none => none
/-- isinstance, of what is data -/
def isTy : D → Ty → Option Bool
  | .int _, t => some (match t with | .int => true | _ => false)
  | .bl _, t => some (match t with | .int => true | .bool => true | _ => false)
  | .str _, t => some (match t with | .str => true | _ => false)
  | .non, _ => some false
  | .tup _, t => some (match t with | .tuple => true | _ => false)
  | .lst _, t => some (match t with | .list => true | _ => false)
  | _, _ => none
def bRes (o : Option Bool) (B : Bag) : Res RV := match o with
  | some b => .ok ⟨.bl b, .D⟩ B
  | none => .st
/-- a value as a test -/
def asTest (t : Bool) (r : RV) (B : Bag) : Res RV := if t then bRes (truth r.d) B else .ok r B
def cmpF (o : O2) (x y : RV) : Option Bool := match o2F o x y with
  | some ⟨.bl b, _⟩ => some b
  | _ => none

/-- what a second clause walks is not lent -/
def srcOk (s : Src) (δ : Env) : Bool := match s with
  | .v i => (match slot δ i with | some x => !x.f.lent | none => false)
  | _ => true
/-- a method's receiver -/
def meOk (m : Me) (x : RV) : Bool := match m, x.d with
  | .index, .lst _ => true
  | .index, .tup _ => true
  | _, _ => false
def meF (m : Me) (x : RV) (xs : List RV) : Option RV := match m, xs with
  | .index, [a] => match items x.d with
    | some l => if okP x.d && okP a.d then match l.findIdx? (fun d => eqD d a.d) with
      | some j => plain (.int (j : Int))
      | none => none
      else none
    | none => none
  | _, _ => none
mutual
/-- t: as a test (then it gives a truth) -/
def ev (C : Cs) : E → Bool → Env → Bag → Res RV
  | .v i, t, δ, B => match slot δ i with
    | some r => asTest t r B
    | none => .st
  | .k d, t, _, B => asTest t ⟨d, .D⟩ B
  | .gc _ d, t, _, B => asTest t ⟨d, .D⟩ B
  | .fn f, false, _, B => .ok ⟨.fn f, .D⟩ B
  | .fn _, true, _, _ => .st
  | .tup l, t, δ, B => (evL C l δ B).bind fun xs B => (opt (flagU xs) B).bind fun r B => asTest t r B
  | .lst l, t, δ, B => (evL C l δ B).bind fun xs B => (opt (flagL xs) B).bind fun r B => asTest t r B
  | .o2 o a b, t, δ, B => (ev C a false δ B).bind fun x B => (ev C b false δ B).bind fun y B => (opt (o2F o x y) B).bind fun r B => asTest t r B
  | .ch o p a b c, _, δ, B => (ev C a false δ B).bind fun x B => (ev C b false δ B).bind fun y B => match cmpF o x y with
    | some true => (ev C c false δ B).bind fun z B => bRes (cmpF p y z) B
    | some false => .ok ⟨.bl false, .D⟩ B
    | none => .st
  | .neg a, t, δ, B => (ev C a false δ B).bind fun x B => match x.d with
    | .int i => asTest t ⟨.int (-i), .D⟩ B
    | _ => .st
  | .nt a, _, δ, B => (ev C a true δ B).bind fun x B => match x.d with
    | .bl b => .ok ⟨.bl (!b), .D⟩ B
    | _ => .st
  | .an l, t, δ, B => evAn C l t δ B
  | .or l, t, δ, B => evOr C l t δ B
  | .ife c a b, t, δ, B => (ev C c true δ B).bind fun x B => match x.d with
    | .bl true => ev C a t δ B
    | .bl false => ev C b t δ B
    | _ => .st
  | .ix a i, t, δ, B => (ev C a false δ B).bind fun x B => (ev C i false δ B).bind fun y B => (opt (ixF x y) B).bind fun r B => asTest t r B
  | .sl a lo hi, t, δ, B => (ev C a false δ B).bind fun x B => (evO C lo δ B).bind fun l B => (evO C hi δ B).bind fun h B => (opt (slF x l h) B).bind fun r B => asTest t r B
  | .call f l, t, δ, B => (evL C l δ B).bind fun xs B => (callR C f xs B).bind fun r B => asTest t r B
  | .bi b l, t, δ, B => (evL C l δ B).bind fun xs B => (opt (biF b xs) B).bind fun r B => asTest t r B
  | .isi a ty, _, δ, B => (ev C a false δ B).bind fun x B => bRes (isTy x.d ty) B
  | .me m a l, t, δ, B => (ev C a false δ B).bind fun x B => if meOk m x then (evL C l δ B).bind fun xs B => (opt (meF m x xs) B).bind fun r B => asTest t r B else .st
  | .cv a l, t, δ, B => (ev C a false δ B).bind fun x B => match x.d with
    | .fn f => (evL C l δ B).bind fun xs B => (callR C f xs B).bind fun r B => asTest t r B
    | _ => .st
  | .comp ws elt g, t, δ, B => (evG C (fun δ B => (ev C elt false δ B).bind fun r B => if r.f.lent then .st else .ok [r] B) ws g δ B).bind fun l B =>
      (opt (flagL l) B).bind fun r B => asTest t r B
  | .dcomp ws key val g, t, δ, B => (evG C (fun δ B => (ev C key false δ B).bind fun a B => (ev C val false δ B).bind fun r B => match keyOf a.d with
      | some _ => if r.d.flat then .ok [⟨.pr [a.d, r.d], .D⟩] B else .st
      | none => .st) ws g δ B).bind fun l B => (opt (dctOf l []) B).bind fun r B => asTest t ⟨.dct r, .D⟩ B
  | .bg x j, t, δ, B => match δ.get x with
    | some (_, .bag) => (opt (bagAt B j) B).bind fun r B => asTest t r B
    | _ => .st
  | .heard _ c e, t, δ, B => match ev C e false δ B with
    | .ok r B => (opt (flagU [⟨.str told, .D⟩, r]) B).bind fun r B => asTest t r B
    | .exc x B => if x.c = c then asTest t ⟨.tup [.str nothing_], .D⟩ B else .st
    | .st => .st
def evAn (C : Cs) : EL → Bool → Env → Bag → Res RV
  | .nil, _, _, _ => .st
  | .cons e .nil, t, δ, B => ev C e t δ B
  | .cons e r, t, δ, B => (ev C e t δ B).bind fun x B => match truth x.d with
    | some true => evAn C r t δ B
    | some false => .ok x B
    | none => .st
def evOr (C : Cs) : EL → Bool → Env → Bag → Res RV
  | .nil, _, _, _ => .st
  | .cons e .nil, t, δ, B => ev C e t δ B
  | .cons e r, t, δ, B => (ev C e t δ B).bind fun x B => match truth x.d with
    | some false => evOr C r t δ B
    | some true => .ok x B
    | none => .st
def evL (C : Cs) : EL → Env → Bag → Res (List RV)
  | .nil, _, B => .ok [] B
  | .cons e r, δ, B => (ev C e false δ B).bind fun x B => (evL C r δ B).bind fun xs B => .ok (x :: xs) B
def evO (C : Cs) : OE → Env → Bag → Res (Option Int)
  | .none, _, B => .ok none B
  | .some e, δ, B => (ev C e false δ B).bind fun x B => match x.d with
    | .int i => .ok (some i) B
    | _ => .st
/-- what is walked; b: nothing lent but a name by itself -/
def evS (C : Cs) (b : Bool) : Src → Env → Bag → Res (List D)
  | .v i, δ, B => match slot δ i with
    | some x => opt (itemsW x) B
    | none => .st
  | .e a, δ, B => (ev C a false δ B).bind fun x B => if b && x.f.lent then .st else opt (itemsW x) B
  | .rng l, δ, B => (evL C l δ B).bind fun xs B => opt (rngF xs) B
  | .zip l, δ, B => (evL C l δ B).bind fun xs B => if b && xs.any (fun x => x.f.lent) then .st else opt (zipF xs) B
  | .enum a, δ, B => (ev C a false δ B).bind fun x B => if b && x.f.lent then .st else opt (enumF x) B
/-- the tests of a clause -/
def evC (C : Cs) : EL → Env → Bag → Res Bool
  | .nil, _, B => .ok true B
  | .cons e r, δ, B => (ev C e true δ B).bind fun x B => match x.d with
    | .bl true => evC C r δ B
    | .bl false => .ok false B
    | _ => .st
def evG (C : Cs) (f : Env → Bag → Res (List RV)) (ws : List Nat) : GL → Env → Bag → Res (List RV)
  | .one t s c, δ, B => (evS C false s δ B).bind fun l B => cap <| compGo (fun d B => match asgTg t ⟨d, .S⟩ (δ.wipe ws) with
      | some δ' => (evC C c δ' B).bind fun ok B => if ok then f δ' B else .ok [] B
      | none => .st) l B
  | .two t s c ws2 t2 s2 c2, δ, B => (evS C false s δ B).bind fun l B => cap <| compGo (fun d B => match asgTg t ⟨d, .S⟩ (δ.wipe ws) with
      | some δ' => (evC C c δ' B).bind fun ok B => if ok then
          (if srcOk s2 δ' then (evS C true s2 δ' B).bind fun l2 B => compGo (fun d2 B => match asgTg t2 ⟨d2, .S⟩ (δ'.wipe ws2) with
            | some δ2 => (evC C c2 δ2 B).bind fun ok B => if ok then f δ2 B else .ok [] B
            | none => .st) l2 B
           else .st)
          else .ok [] B
      | none => .st) l B
end
example (C : Cs) (d : D) (δ : Env) (B : Bag) : ev C (.tup (.cons (.k d) .nil)) false δ B = (opt (flagU [⟨d, .D⟩]) B).bind fun r B => asTest false r B := rfl

/-! ### what names are lent, read through, or handed on -/
mutual
/-- k: 0 lent, 1 its items are read out, 2 handed on -/
def occ : E → Nat → List (Nat × Nat)
  | .v i, k => [(i, k)]
  | .tup l, _ => occL l 2
  | .lst l, _ => occL l 2
  | .o2 o a b, _ => match o with
    | .add => occ a 1 ++ occ b 1
    | _ => occ a 0 ++ occ b 0
  | .ch _ _ a b c, _ => occ a 0 ++ occ b 0 ++ occ c 0
  | .neg a, _ => occ a 0
  | .nt a, _ => occ a 0
  | .an l, k => occL l k
  | .or l, k => occL l k
  | .ife c a b, k => occ c 0 ++ occ a k ++ occ b k
  | .ix a i, _ => occ a 1 ++ occ i 0
  | .sl a lo hi, _ => occ a 1 ++ occO lo ++ occO hi
  | .call _ l, _ => occL l 0
  | .bi b l, _ => match b with
    | .tuple => occL l 1
    | .list => occL l 1
    | .sorted => occL l 1
    | .sum => occL l 1
    | .min => occL l 1
    | .max => occL l 1
    | _ => occL l 0
  | .isi a _, _ => occ a 0
  | .me _ a l, _ => occ a 1 ++ occL l 0
  | .cv a l, _ => occ a 0 ++ occL l 0
  | .comp _ e g, _ => occ e 2 ++ occG g
  | .dcomp _ a e g, _ => occ a 2 ++ occ e 2 ++ occG g
  | .bg _ _, _ => []
  | .heard _ _ e, _ => occ e 2
  | .k _, _ => []
  | .gc _ _, _ => []
  | .fn _, _ => []
def occL : EL → Nat → List (Nat × Nat)
  | .nil, _ => []
  | .cons e r, k => occ e k ++ occL r k
def occO : OE → List (Nat × Nat)
  | .none => []
  | .some e => occ e 0
def occS : Src → List (Nat × Nat)
  | .v i => [(i, 1)]
  | .e a => occ a 1
  | .rng l => occL l 0
  | .zip l => occL l 1
  | .enum a => occ a 1
def occG : GL → List (Nat × Nat)
  | .one _ s c => occS s ++ occL c 0
  | .two _ s c _ _ s2 c2 => occS s ++ occL c 0 ++ occS2 s2 ++ occL c2 0
def occS2 : Src → List (Nat × Nat)
  | .v i => [(i, 2)]
  | .e a => occ a 2
  | .rng l => occL l 0
  | .zip l => occL l 2
  | .enum a => occ a 2
end
def kidsFlat : D → Bool
  | .lst l => D.flatL l
  | .tup l => D.flatL l
  | _ => false
/-- what is handed on is shared from then on -/
def freeze1 (δ : Env) (p : Nat × Nat) : Env := match δ.get p.1 with
  | some (m, d) => if p.2 = 2 then δ.put p.1 .S d else if p.2 = 1 then (match m with
    | .D => if kidsFlat d then δ else δ.put p.1 .S d
    | _ => δ) else δ
  | none => δ
def freeze (δ : Env) (l : List (Nat × Nat)) : Env := l.foldl freeze1 δ

/-! ### statements -/
inductive Mu where | append | extend | insert | pop | setix
  deriving DecidableEq, Inhabited
mutual
inductive S where
  | asg (t : Tg) (e : E)
  | aug (i : Nat) (o : O2) (e : E)
  | mut (m : Mu) (x : Nat) (path : EL) (args : EL)
  | ret (e : E) | retN
  | ex (e : E)
  | ite (c : E) (a b : SL)
  | for_ (t : Tg) (s : Src) (b : SL)
  | whl (c : E) (b : SL)
  | brk | cnt | pas
  | raise (c : Nat) (args : EL)
  | bset (x j : Nat) (e : E)
  | baug (x j : Nat) (e : E)
inductive SL where
  | nil | cons (s : S) (r : SL)
end
instance : Inhabited S := ⟨.pas⟩
inductive Out where
  | nx (δ : Env) (B : Bag) | ret (r : RV) (B : Bag) | brk (δ : Env) (B : Bag) | cnt (δ : Env) (B : Bag) | exc (x : Exn) (B : Bag) | st
  deriving Inhabited
def Out.then_ : Out → (Env → Bag → Out) → Out
  | .nx δ B, f => f δ B
  | o, _ => o
def ofRes {α : Type} (r : Res α) (f : α → Bag → Out) : Out := match r with
  | .ok a B => f a B
  | .exc x B => .exc x B
  | .st => .st
def forGo (f : D → Env → Bag → Out) : List D → Env → Bag → Out
  | [], δ, B => .nx δ B
  | d :: r, δ, B => match f d δ B with
    | .nx δ B => forGo f r δ B
    | .cnt δ B => forGo f r δ B
    | .brk δ B => .nx δ B
    | o => o
def whlGo (c : Env → Bag → Res RV) (f : Env → Bag → Out) : Nat → Env → Bag → Out
  | 0, _, _ => .st
  | n + 1, δ, B => ofRes (c δ B) fun r B => match r.d with
    | .bl true => (match f δ B with
      | .nx δ B => whlGo c f n δ B
      | .cnt δ B => whlGo c f n δ B
      | .brk δ B => .nx δ B
      | o => o)
    | .bl false => .nx δ B
    | _ => .st
/-- the names whose lists a loop walks -/
def lockOf : Src → List Nat
  | .v i => [i]
  | _ => []
/-- how a list is held behind a new item -/
def mdAdd (m : Md) (r : RV) : Option Md := match m with
  | .S => none
  | .R => match r.f with | .BR => none | .BD => none | _ => some .R
  | .D => match r.f with | .D => some .D | .R => some .R | .S => some .R | _ => none
def mutF (m : Mu) (md : Md) (d : D) (path : List RV) (args : List RV) : Option (Md × D) :=
  match m, path, args, d with
  | .append, [], [a], .lst l => if l.length < 1000000 then (match mdAdd md a with
    | some md' => some (md', .lst (l ++ [a.d]))
    | none => none) else none
  | .append, [p], [a], .lst l => match md, p.d with
    | .D, .int k => match L2.ixN l.length k with
      | some j => match l[j]? with
        | some (.lst m) => if m.length < 1000000 ∧ a.d.flat then some (.D, .lst (l.set j (.lst (m ++ [a.d])))) else none
        | _ => none
      | none => none
    | _, _ => none
  | .extend, [], [a], .lst l => match a.d with
    | .lst q => if l.length + q.length ≤ 1000000 ∧ D.flatL q then (match md with
      | .S => none
      | _ => some (md, .lst (l ++ q))) else none
    | _ => none
  | _, _, _, _ => none
/-- what a path leads to is a list -/
def mutP (l : List D) : List RV → Bool
  | [] => true
  | [p] => match p.d with
    | .int k => match L2.ixN l.length k with
      | some j => match l[j]? with
        | some (.lst _) => true
        | _ => false
      | none => false
    | _ => false
  | _ => false
mutual
def exS (C : Cs) (W : Nat) : S → List Nat → Env → Bag → Out
  | .asg t e, _, δ, B => match t, e with
    | .n j, .v i => (match δ.get i with
      | some (_, d) => .nx ((δ.put i .S d).put j .S d) B
      | none => .st)
    | _, _ => let δ := freeze δ (occ e 2)
      ofRes (ev C e false δ B) fun r B => match asgTg t r δ with
        | some δ => .nx δ B
        | none => .st
  | .aug i o e, _, δ, B => match slot δ i with
    | some x => ofRes (ev C e false δ B) fun r B => match x.d, r.d with
      | .int _, .int _ => (match o2F o x r with
        | some z => .nx (δ.put i .S z.d) B
        | none => .st)
      | _, _ => .st
    | none => .st
  | .mut m x path args, lk, δ, B => if lk.contains x then .st else
      let δ := freeze δ (occL args 2)
      match δ.get x with
      | some (md, .lst l) => ofRes (evL C path δ B) fun ps B => if mutP l ps then ofRes (evL C args δ B) fun as B => match mutF m md (.lst l) ps as with
          | some (md', d') => .nx (δ.put x md' d') B
          | none => .st
        else .st
      | _ => .st
  | .ret e, _, δ, B => (match e with
    | .v i => (match δ.get i with
      | some (m, d) => .ret ⟨d, if d.flat then .D else match m with | .S => .S | .R => .R | .D => .D⟩ B
      | none => .st)
    | _ => let δ := freeze δ (occ e 2)
      ofRes (ev C e false δ B) fun r B => if r.f.lent then .st else .ret r B)
  | .retN, _, _, B => .ret ⟨.non, .D⟩ B
  | .ex e, _, δ, B => ofRes (ev C e false δ B) fun _ B => .nx δ B
  | .ite c a b, lk, δ, B => ofRes (ev C c true δ B) fun r B => match r.d with
    | .bl true => exL C W a lk δ B
    | .bl false => exL C W b lk δ B
    | _ => .st
  | .for_ t s b, lk, δ, B => let δ := freeze δ (occS s)
      ofRes (evS C true s δ B) fun l B => forGo (fun d δ B => match asgTg t ⟨d, .S⟩ δ with
        | some δ => exL C W b (lockOf s ++ lk) δ B
        | none => .st) l δ B
  | .whl c b, lk, δ, B => whlGo (fun δ B => ev C c true δ B) (fun δ B => exL C W b lk δ B) W δ B
  | .brk, _, δ, B => .brk δ B
  | .cnt, _, δ, B => .cnt δ B
  | .pas, _, δ, B => .nx δ B
  | .raise c args, _, δ, B => ofRes (evL C args δ B) fun xs B => .exc ⟨c, xs.map (·.d)⟩ B
  | .bset x j e, _, δ, B => ofRes (ev C e false δ B) fun r B => match δ.get x with
    | some (_, .bag) => (match bagSet B j r.d with
      | some B => .nx δ B
      | none => .st)
    | _ => .st
  | .baug x j e, _, δ, B => match δ.get x with
    | some (_, .bag) => (match bagAt B j with
      | some ⟨.int a, _⟩ => ofRes (ev C e false δ B) fun r B => match r.d with
        | .int b => (match bagSet B j (.int (a + b)) with
          | some B => .nx δ B
          | none => .st)
        | _ => .st
      | _ => .st)
    | _ => .st
def exL (C : Cs) (W : Nat) : SL → List Nat → Env → Bag → Out
  | .nil, _, δ, B => .nx δ B
  | .cons s r, lk, δ, B => match exS C W s lk δ B with
    | .nx δ B => exL C W r lk δ B
    | o => o
end

/-! ### defs -/
structure Def where
  np : Nat
  ns : Nat
  body : SL
inductive Fn where
  | py (d : Def) | take
def takeF (B : Bag) (n : Int) : Option (Int × Bag) :=
  if n ≤ 0 then none else
  let B1 : Bag := if B.big = 0 then
      let cell := B.cells.getD B.at_ 0
      let at1 := B.at_ + 1
      let big1 := if cell ≥ 10 ^ 18 then cell else B.big
      let stirred := B.seed * 48271 + cell.fmod 2147483647 + 7919 * (at1 : Int)
      ⟨big1, stirred.fmod 2147483647, at1, B.cells⟩
    else B
  if 0 < B1.big then some (B1.big.fmod n, { B1 with big := B1.big.fdiv n })
  else
    let begin_ := ((B1.seed + 1) * 39373).fmod 1000000007
    let second := (((begin_ * begin_).fmod 998244353) * 30011).fmod 998244353
    some ((second.fdiv 7).fmod n, B1)
/-- a call, k deep at most -/
def callN (P : Nat → Option Fn) (W : Nat) : Nat → Cs
  | 0, _, _, _ => .st
  | k + 1, f, ds, B => match P f with
    | some (.py d) => if ds.length = d.np then
        (match exL (callN P W k) W d.body [] (ds.map (fun x => some (.S, x)) ++ List.replicate (d.ns - d.np) none) B with
        | .ret r B => .ok r B
        | .nx _ B => .ok ⟨.non, .D⟩ B
        | .exc x B => .exc x B
        | _ => .st) else .st
    | some .take => match ds with
      | [.bag, .int n] => match takeF B n with
        | some (v, B') => .ok ⟨.int v, .D⟩ B'
        | none => .st
      | _ => .st
    | none => .st
end Wh

set_option maxHeartbeats 4000000
/-! Wh, part T: a test is the truth of the value. -/
namespace Wh
open PySem
theorem bind_assoc {α β γ : Type} (r : Res α) (f : α → Bag → Res β) (g : β → Bag → Res γ) : (r.bind f).bind g = r.bind fun a B => (f a B).bind g := by cases r <;> rfl
theorem ok_bind {α β : Type} (a : α) (B : Bag) (f : α → Bag → Res β) : (Res.ok a B).bind f = f a B := rfl
theorem st_bind {α β : Type} (f : α → Bag → Res β) : (Res.st : Res α).bind f = .st := rfl
theorem bind_congr {α β : Type} {r : Res α} {f g : α → Bag → Res β} (h : ∀ a B, f a B = g a B) : r.bind f = r.bind g := by
  have : f = g := funext fun a => funext fun B => h a B
  rw [this]
theorem asT_t (r : RV) (B : Bag) : asTest true r B = bRes (truth r.d) B := rfl
theorem asT_f (r : RV) (B : Bag) : asTest false r B = .ok r B := rfl
abbrev tr (r : RV) (B : Bag) : Res RV := bRes (truth r.d) B
theorem bRes_tr (o : Option Bool) (B : Bag) : (bRes o B).bind tr = bRes o B := by cases o <;> rfl
theorem bRes_tr' (o : Option Bool) (B : Bag) : (bRes o B).bind (fun r B => bRes (truth r.d) B) = bRes o B := by cases o <;> rfl
mutual
theorem ev_tt (C : Cs) : ∀ (a : E) (δ : Env) (B : Bag), ev C a true δ B = (ev C a false δ B).bind fun r B => bRes (truth r.d) B
  | .v i, δ, B => by
    simp only [ev]
    cases slot δ i <;> rfl
  | .k d, δ, B => rfl
  | .gc _ d, δ, B => rfl
  | .fn f, δ, B => rfl
  | .tup l, δ, B => by simp only [ev, bind_assoc, asT_t, asT_f, ok_bind]
  | .lst l, δ, B => by simp only [ev, bind_assoc, asT_t, asT_f, ok_bind]
  | .o2 o a b, δ, B => by simp only [ev, bind_assoc, asT_t, asT_f, ok_bind]
  | .ch o p a b c, δ, B => by
    simp only [ev, bind_assoc]
    refine bind_congr fun x B1 => bind_congr fun y B2 => ?_
    cases cmpF o x y with
    | none => rfl
    | some b =>
      cases b with
      | false => rfl
      | true => simp only [bind_assoc, bRes_tr']
  | .neg a, δ, B => by
    simp only [ev, bind_assoc]
    refine bind_congr fun x B1 => ?_
    obtain ⟨d, f⟩ := x
    cases d <;> rfl
  | .nt a, δ, B => by
    simp only [ev, bind_assoc]
    refine bind_congr fun x B1 => ?_
    obtain ⟨d, f⟩ := x
    cases d <;> rfl
  | .an l, δ, B => by simp only [ev]; exact evAn_tt C l δ B
  | .or l, δ, B => by simp only [ev]; exact evOr_tt C l δ B
  | .ife c a b, δ, B => by
    simp only [ev, bind_assoc]
    refine bind_congr fun x B1 => ?_
    obtain ⟨d, f⟩ := x
    cases d with
    | bl t =>
      cases t with
      | true => exact ev_tt C a δ B1
      | false => exact ev_tt C b δ B1
    | _ => rfl
  | .ix a i, δ, B => by simp only [ev, bind_assoc, asT_t, asT_f, ok_bind]
  | .sl a lo hi, δ, B => by simp only [ev, bind_assoc, asT_t, asT_f, ok_bind]
  | .call f l, δ, B => by simp only [ev, bind_assoc, asT_t, asT_f, ok_bind]
  | .bi b l, δ, B => by simp only [ev, bind_assoc, asT_t, asT_f, ok_bind]
  | .isi a t, δ, B => by simp only [ev, bind_assoc, bRes_tr']
  | .me m a l, δ, B => by
    simp only [ev, bind_assoc]
    refine bind_congr fun x B1 => ?_
    split
    · simp only [bind_assoc, asT_t, asT_f, ok_bind]
    · rfl
  | .cv a l, δ, B => by
    simp only [ev, bind_assoc]
    refine bind_congr fun x B1 => ?_
    obtain ⟨d, f⟩ := x
    cases d <;> first | rfl | simp only [bind_assoc, asT_t, asT_f, ok_bind]
  | .comp ws e g, δ, B => by simp only [ev, bind_assoc, asT_t, asT_f, ok_bind]
  | .dcomp ws a e g, δ, B => by simp only [ev, bind_assoc, asT_t, asT_f, ok_bind]
  | .bg x j, δ, B => by
    simp only [ev]
    split
    · simp only [bind_assoc, asT_t, asT_f, ok_bind]
    · rfl
  | .heard f c e, δ, B => by
    simp only [ev]
    cases ev C e false δ B with
    | st => rfl
    | ok r B1 => simp only [bind_assoc, asT_t, asT_f, ok_bind]
    | exc x B1 =>
      dsimp only
      split <;> rfl
theorem evAn_tt (C : Cs) : ∀ (l : EL) (δ : Env) (B : Bag), evAn C l true δ B = (evAn C l false δ B).bind fun r B => bRes (truth r.d) B
  | .nil, δ, B => rfl
  | .cons e .nil, δ, B => by simp only [evAn]; exact ev_tt C e δ B
  | .cons e (.cons e2 r), δ, B => by
    simp only [evAn, bind_assoc, ev_tt C e δ B]
    refine bind_congr fun x B1 => ?_
    cases q : truth x.d with
    | none => rfl
    | some b =>
      cases b with
      | true => exact evAn_tt C (.cons e2 r) δ B1
      | false =>
        show _ = bRes (truth x.d) B1
        rw [q]
        rfl
theorem evOr_tt (C : Cs) : ∀ (l : EL) (δ : Env) (B : Bag), evOr C l true δ B = (evOr C l false δ B).bind fun r B => bRes (truth r.d) B
  | .nil, δ, B => rfl
  | .cons e .nil, δ, B => by simp only [evOr]; exact ev_tt C e δ B
  | .cons e (.cons e2 r), δ, B => by
    simp only [evOr, bind_assoc, ev_tt C e δ B]
    refine bind_congr fun x B1 => ?_
    cases q : truth x.d with
    | none => rfl
    | some b =>
      cases b with
      | false => exact evOr_tt C (.cons e2 r) δ B1
      | true =>
        show _ = bRes (truth x.d) B1
        rw [q]
        rfl
end
end Wh

set_option maxHeartbeats 4000000
/-! Wh, part B: how plain values lie in the heap. -/
namespace Wh
open PySem PySem.Spec PyProof.Rows L2

/-- a tuple of the written part -/
def KT (K : PySem.W.Frag) (a : Addr) (xs : List V) : Prop :=
  ∃ (o : Obj) (its : Array Value) (n : Nat), K.lookup a = some o ∧ o.cls = .type "tuple" ∧ o.data = .seq its n ∧ its.size ≤ sizeLine ∧ Vals xs its.toList ∧ o.dict = none
/-- a tuple whose record is known to have no names -/
def Tf (H : Hp) (a : Addr) (vs : List V) : Prop := ∃ o : Obj, H a = some (.frz o (.tup vs)) ∧ o.dict = none

/-- where things stand: K the written part, F the defs' addresses (ok: which are known; hv: which ask that nothing is being shown; tb: which make lambdas), C the error classes', g the bag, T the code tables -/
structure Pl where
  K : PySem.W.Frag
  F : Nat → Addr
  ok : Nat → Prop
  hv : Nat → Bool
  tb : Nat → Bool
  C : Nat → Addr
  g : Addr
  gc : Addr
  T : List (Addr × Str)

mutual
/-- v is d in H; fp: the lists of it, from outside in -/
inductive Rf (p : Pl) (H : Hp) : V → D → List Addr → Prop
  | non : Rf p H .non .non []
  | bl (b : Bool) : Rf p H (.bl b) (.bl b) []
  | int (i : Int) : Rf p H (.int i) (.int i) []
  | str (x : Str) : Rf p H (.str x) (.str x) []
  | tup {a : Addr} {vs : List V} {ds : List D} {fp : List Addr} : Tf H a vs → a ≠ p.g → RfL p H vs ds fp → Rf p H (.ref a) (.tup ds) fp
  | pr {a : Addr} {vs : List V} {ds : List D} {fp : List Addr} : H a = some (.tup vs) → a ≠ p.g → RfL p H vs ds fp → Rf p H (.ref a) (.pr ds) fp
  | ktup {a : Addr} {vs : List V} {ds : List D} {fp : List Addr} : KT p.K a vs → RfL p H vs ds fp → Rf p H (.ref a) (.tup ds) fp
  | lst {a : Addr} {vs : List V} {ds : List D} {fp : List Addr} : H a = some (.lst vs) → a ≠ p.g → RfL p H vs ds fp → Rf p H (.ref a) (.lst ds) (a :: fp)
  | dct {a : Addr} {kvs : List (Key × V)} {ds : List (Key × D)} : H a = some (.dK kvs) → a ≠ p.g → kvs.map (·.1) = ds.map (·.1) → RfL p H (kvs.map (·.2)) (ds.map (·.2)) [] → Rf p H (.ref a) (.dct ds) [a]
  | fn (f : Nat) (h : p.ok f) : Rf p H (.ref (p.F f)) (.fn f) []
  | bag : Rf p H (.ref p.g) .bag []
inductive RfL (p : Pl) (H : Hp) : List V → List D → List Addr → Prop
  | nil : RfL p H [] [] []
  | cons {v : V} {vs : List V} {d : D} {ds : List D} {f1 f2 : List Addr} : Rf p H v d f1 → RfL p H vs ds f2 → RfL p H (v :: vs) (d :: ds) (f1 ++ f2)
end

/-- all that was tracked is as it was, but the bag and the code tables, which are there -/
def Ext (g : Addr) (H H' : Hp) : Prop := ∀ a o, H a = some o → (∃ o', H' a = some o') ∧ (a ≠ g → (∀ ps, o ≠ .tbl ps) → H' a = some o)
theorem Ext.refl (g : Addr) (H : Hp) : Ext g H H := fun _ o h => ⟨⟨o, h⟩, fun _ _ => h⟩
theorem Ext.trans {g : Addr} {H H1 H2 : Hp} (a : Ext g H H1) (b : Ext g H1 H2) : Ext g H H2 := fun x o h => by
  obtain ⟨⟨o', h1⟩, h2⟩ := a x o h
  exact ⟨(b x o' h1).1, fun n t => (b x o (h2 n t)).2 n t⟩
theorem Ext.of_same {g : Addr} {H H' : Hp} (s : Same H H') : Ext g H H' := fun a o h => ⟨⟨o, s a o h⟩, fun _ _ => s a o h⟩
theorem Same.new {H : Hp} {p : Addr} {o : HO} (h : H p = none) : Same H (upd H p o) := fun a u e => by
  rw [upd_ne (ne_of_none e h)]; exact e
theorem Ext.free {g : Addr} {H H' : Hp} (e : Ext g H H') {l : Addr} (h : H' l = none) : H l = none := by
  cases q : H l with
  | none => rfl
  | some o =>
    obtain ⟨⟨o', h1⟩, _⟩ := e l o q
    rw [h1] at h
    cases h
theorem Ext.at {g : Addr} {H H' : Hp} (e : Ext g H H') {a : Addr} {o : HO} (h : H a = some o) (n : a ≠ g) (t : ∀ ps, o ≠ .tbl ps) : H' a = some o := (e a o h).2 n t

section
variable {p : Pl} {H H' : Hp}
/-- what can be changed -/
def Chg : HO → Prop
  | .lst _ => True
  | .dK _ => True
  | _ => False
/-- all but lists, dicts and tables stays -/
def KpO (g : Addr) (H H' : Hp) : Prop := ∀ a o, H a = some o → ¬ Chg o → (∀ ps, o ≠ .tbl ps) → a ≠ g → H' a = some o
theorem KpO.tup {g : Addr} {H H' : Hp} (k : KpO g H H') {a : Addr} {vs : List V} (h : H a = some (.tup vs)) (n : a ≠ g) : H' a = some (.tup vs) := k a _ h (fun z => z) (fun _ z => by cases z) n
theorem KpO.tf {g : Addr} {H H' : Hp} (k : KpO g H H') {a : Addr} {vs : List V} (h : Tf H a vs) (n : a ≠ g) : Tf H' a vs := let ⟨o, h1, h2⟩ := h; ⟨o, k a _ h1 (fun z => z) (fun _ z => by cases z) n, h2⟩
theorem KpO.refl (g : Addr) (H : Hp) : KpO g H H := fun _ _ h _ _ _ => h
theorem KpO.trans {g : Addr} {H H1 H2 : Hp} (a : KpO g H H1) (b : KpO g H1 H2) : KpO g H H2 := fun x o h l t n => b x o (a x o h l t n) l t n
theorem KpO.of_ext {g : Addr} {H H' : Hp} (e : Ext g H H') : KpO g H H' := fun _ _ h _ t n => e.at h n t
theorem KpO.but {g : Addr} {H H' : Hp} {D : Addr} {u : HO} (h : H D = some u) (k : ∀ a, a ≠ D → H' a = H a) (m : Chg u := by exact True.intro) : KpO g H H' := fun a o q l _ _ => by
  have ne : a ≠ D := fun z => by
    rw [z, h] at q
    exact l (Option.some.inj q ▸ m)
  rw [k a ne]; exact q
/-- it stays while its lists and all tuples stay -/
def Keeps (p : Pl) (H H' : Hp) (fp : List Addr) : Prop := KpO p.g H H' ∧ ∀ a ∈ fp, ∀ o, H a = some o → Chg o → a ≠ p.g → H' a = some o
theorem Chg.ntbl {o : HO} (m : Chg o) : ∀ ps, o ≠ .tbl ps := fun _ z => by rw [z] at m; exact m
theorem Keeps.of_ext (e : Ext p.g H H') (fp : List Addr) : Keeps p H H' fp := ⟨.of_ext e, fun a _ o h m n => e.at h n m.ntbl⟩
theorem Keeps.left {f1 f2 : List Addr} (k : Keeps p H H' (f1 ++ f2)) : Keeps p H H' f1 := ⟨k.1, fun a h => k.2 a (List.mem_append_left _ h)⟩
theorem Keeps.right {f1 f2 : List Addr} (k : Keeps p H H' (f1 ++ f2)) : Keeps p H H' f2 := ⟨k.1, fun a h => k.2 a (List.mem_append_right _ h)⟩
theorem Keeps.tail {b : Addr} {f : List Addr} (k : Keeps p H H' (b :: f)) : Keeps p H H' f := ⟨k.1, fun a h => k.2 a (List.mem_cons_of_mem _ h)⟩
mutual
theorem Rf.keep : ∀ {v : V} {d : D} {fp : List Addr}, Rf p H v d fp → Keeps p H H' fp → Rf p H' v d fp
  | _, _, _, .non, _ => .non
  | _, _, _, .bl b, _ => .bl b
  | _, _, _, .int i, _ => .int i
  | _, _, _, .str x, _ => .str x
  | _, _, _, .tup h n r, k => .tup (k.1.tf h n) n (RfL.keep r k)
  | _, _, _, .pr h n r, k => .pr (k.1.tup h n) n (RfL.keep r k)
  | _, _, _, .ktup h r, k => .ktup h (RfL.keep r k)
  | _, _, _, .lst h n r, k => .lst (k.2 _ List.mem_cons_self _ h True.intro n) n (RfL.keep r k.tail)
  | _, _, _, .dct h n e r, k => .dct (k.2 _ List.mem_cons_self _ h True.intro n) n e (RfL.keep r ⟨k.1, fun _ z => by cases z⟩)
  | _, _, _, .fn f h, _ => .fn f h
  | _, _, _, .bag, _ => .bag
theorem RfL.keep : ∀ {vs : List V} {ds : List D} {fp : List Addr}, RfL p H vs ds fp → Keeps p H H' fp → RfL p H' vs ds fp
  | _, _, _, .nil, _ => .nil
  | _, _, _, .cons h t, k => .cons (Rf.keep h k.left) (RfL.keep t k.right)
end
theorem Rf.ext {v : V} {d : D} {fp : List Addr} (r : Rf p H v d fp) (e : Ext p.g H H') : Rf p H' v d fp := r.keep (.of_ext e fp)
theorem RfL.ext {vs : List V} {ds : List D} {fp : List Addr} (r : RfL p H vs ds fp) (e : Ext p.g H H') : RfL p H' vs ds fp := r.keep (.of_ext e fp)
theorem RfL.length : ∀ {vs : List V} {ds : List D} {fp : List Addr}, RfL p H vs ds fp → vs.length = ds.length
  | _, _, _, .nil => rfl
  | _, _, _, .cons _ t => congrArg (· + 1) (RfL.length t)
mutual
theorem Rf.there : ∀ {v : V} {d : D} {fp : List Addr}, Rf p H v d fp → ∀ a ∈ fp, ∃ o, H a = some o ∧ Chg o
  | _, _, _, .non, _, h => by simp at h
  | _, _, _, .bl b, _, h => by simp at h
  | _, _, _, .int i, _, h => by simp at h
  | _, _, _, .str x, _, h => by simp at h
  | _, _, _, .tup _ _ r, a, h => RfL.there r a h
  | _, _, _, .pr _ _ r, a, h => RfL.there r a h
  | _, _, _, .ktup _ r, a, h => RfL.there r a h
  | _, _, _, .lst (a := b) (vs := vs) e _ r, a, h => by
    rcases List.mem_cons.mp h with rfl | h
    · exact ⟨_, e, True.intro⟩
    · exact RfL.there r a h
  | _, _, _, .dct e _ _ r, a, h => by
    rw [List.mem_singleton.mp h]
    exact ⟨_, e, True.intro⟩
  | _, _, _, .fn f _, _, h => by simp at h
  | _, _, _, .bag, _, h => by simp at h
theorem RfL.there : ∀ {vs : List V} {ds : List D} {fp : List Addr}, RfL p H vs ds fp → ∀ a ∈ fp, ∃ o, H a = some o ∧ Chg o
  | _, _, _, .nil, _, h => by simp at h
  | _, _, _, .cons r t, a, h => by
    rcases List.mem_append.mp h with h | h
    · exact Rf.there r a h
    · exact RfL.there t a h
end
mutual
theorem Rf.nog : ∀ {v : V} {d : D} {fp : List Addr}, Rf p H v d fp → p.g ∉ fp
  | _, _, _, .non => by simp
  | _, _, _, .bl b => by simp
  | _, _, _, .int i => by simp
  | _, _, _, .str x => by simp
  | _, _, _, .tup _ _ r => RfL.nog r
  | _, _, _, .pr _ _ r => RfL.nog r
  | _, _, _, .ktup _ r => RfL.nog r
  | _, _, _, .lst _ n r => fun h => by
    rcases List.mem_cons.mp h with h | h
    · exact n h.symm
    · exact RfL.nog r h
  | _, _, _, .dct _ n _ r => fun h => n (List.mem_singleton.mp h).symm
  | _, _, _, .fn f _ => by simp
  | _, _, _, .bag => by simp
theorem RfL.nog : ∀ {vs : List V} {ds : List D} {fp : List Addr}, RfL p H vs ds fp → p.g ∉ fp
  | _, _, _, .nil => by simp
  | _, _, _, .cons r t => fun h => by
    rcases List.mem_append.mp h with h | h
    · exact Rf.nog r h
    · exact RfL.nog t h
end
mutual
/-- what is flat has no lists -/
theorem Rf.flat : ∀ {v : V} {d : D} {fp : List Addr}, Rf p H v d fp → d.flat = true → fp = []
  | _, _, _, .non, _ => rfl
  | _, _, _, .bl b, _ => rfl
  | _, _, _, .int i, _ => rfl
  | _, _, _, .str x, _ => rfl
  | _, _, _, .tup _ _ r, h => RfL.flat r (by simpa [D.flat] using h)
  | _, _, _, .pr _ _ r, h => RfL.flat r (by simpa [D.flat] using h)
  | _, _, _, .ktup _ r, h => RfL.flat r (by simpa [D.flat] using h)
  | _, _, _, .lst _ _ _, h => by simp [D.flat] at h
  | _, _, _, .dct _ _ _ _, h => by simp [D.flat] at h
  | _, _, _, .fn f _, _ => rfl
  | _, _, _, .bag, _ => rfl
theorem RfL.flat : ∀ {vs : List V} {ds : List D} {fp : List Addr}, RfL p H vs ds fp → D.flatL ds = true → fp = []
  | _, _, _, .nil, _ => rfl
  | _, _, _, .cons r t, h => by
    simp only [D.flatL, Bool.and_eq_true] at h
    rw [Rf.flat r h.1, RfL.flat t h.2]
    rfl
end
/-- the item at a place, its lists among all -/
theorem RfL.get : ∀ {vs : List V} {ds : List D} {fp : List Addr} {i : Nat} {d : D}, RfL p H vs ds fp → ds[i]? = some d → ∃ v f1, vs[i]? = some v ∧ Rf p H v d f1 ∧ f1.Sublist fp
  | _, _, _, _, _, .nil, e => by simp at e
  | _, _, _, 0, _, .cons r t, e => by
    simp at e; subst e
    exact ⟨_, _, rfl, r, List.sublist_append_left _ _⟩
  | _, _, _, i + 1, _, .cons r t, e => by
    obtain ⟨v, f1, h1, h2, h3⟩ := RfL.get t (by simpa using e)
    exact ⟨v, f1, by simpa using h1, h2, h3.trans (List.sublist_append_right _ _)⟩
theorem RfL.append : ∀ {vs ws : List V} {ds es : List D} {f1 f2 : List Addr}, RfL p H vs ds f1 → RfL p H ws es f2 → RfL p H (vs ++ ws) (ds ++ es) (f1 ++ f2)
  | _, _, _, _, _, _, .nil, h => h
  | _, _, _, _, _, _, .cons r t, h => by
    have := RfL.cons r (RfL.append t h)
    rwa [← List.append_assoc] at this
theorem RfL.take : ∀ {vs : List V} {ds : List D} {fp : List Addr} (n : Nat), RfL p H vs ds fp → ∃ f1, RfL p H (vs.take n) (ds.take n) f1 ∧ f1.Sublist fp
  | _, _, _, 0, _ => ⟨[], .nil, List.nil_sublist _⟩
  | _, _, _, _ + 1, .nil => ⟨[], .nil, List.nil_sublist _⟩
  | _, _, _, n + 1, .cons r t => by
    obtain ⟨f1, h1, h2⟩ := RfL.take n t
    exact ⟨_, .cons r h1, List.Sublist.append (List.Sublist.refl _) h2⟩
theorem RfL.drop : ∀ {vs : List V} {ds : List D} {fp : List Addr} (n : Nat), RfL p H vs ds fp → ∃ f1, RfL p H (vs.drop n) (ds.drop n) f1 ∧ f1.Sublist fp
  | _, _, fp, 0, h => ⟨fp, h, List.Sublist.refl _⟩
  | _, _, _, _ + 1, .nil => ⟨[], .nil, List.Sublist.refl _⟩
  | _, _, _, n + 1, .cons r t => by
    obtain ⟨f1, h1, h2⟩ := RfL.drop n t
    exact ⟨f1, h1, h2.trans (List.sublist_append_right _ _)⟩
theorem RfL.set : ∀ {vs : List V} {ds : List D} {fp : List Addr} {i : Nat} {v : V} {d : D}, RfL p H vs ds fp → Rf p H v d [] → ∃ f1, RfL p H (vs.set i v) (ds.set i d) f1 ∧ f1.Sublist fp
  | _, _, _, _, _, _, .nil, _ => ⟨[], .nil, List.Sublist.refl _⟩
  | _, _, _, 0, _, _, .cons r t, h => ⟨_, .cons h t, List.sublist_append_right _ _⟩
  | _, _, _, i + 1, _, _, .cons r t, h => by
    obtain ⟨f1, h1, h2⟩ := RfL.set (i := i) t h
    exact ⟨_, .cons r h1, List.Sublist.append (List.Sublist.refl _) h2⟩
end

/-! ### as the library's data -/
section
variable {p : Pl} {H : Hp}
theorem Tf.sq {K : PySem.W.Frag} {H : Hp} {a : Addr} {vs : List V} (h : Tf H a vs) : SqT K H a vs := let ⟨o, h1, _⟩ := h; .inl (.inr ⟨o, h1⟩)
theorem KT.sq {K : PySem.W.Frag} {a : Addr} {xs : List V} (h : KT K a xs) {H : Hp} : SqT K H a xs := let ⟨o, its, n, h1, h2, h3, h4, h5, _⟩ := h; .inr ⟨o, its, n, h1, h2, h3, h4, h5⟩
mutual
theorem Rf.dp : ∀ {v : V} {d : D} {fp : List Addr}, Rf p H v d fp → d.isP = true → Dp p.K H v d.toP
  | _, _, _, .non, _ => .non
  | _, _, _, .bl b, _ => .bl b
  | _, _, _, .int i, _ => .int i
  | _, _, _, .str x, _ => .str x
  | _, _, _, .tup h n r, k => .tup h.sq (RfL.dp r (by simpa [D.isP] using k))
  | _, _, _, .pr h n r, k => by simp [D.isP] at k
  | _, _, _, .ktup h r, k => .tup h.sq (RfL.dp r (by simpa [D.isP] using k))
  | _, _, _, .lst h n r, k => .lst (SqL.of h) (RfL.dp r (by simpa [D.isP] using k))
  | _, _, _, .dct _ _ _ _, k => by simp [D.isP] at k
  | _, _, _, .fn f _, k => by simp [D.isP] at k
  | _, _, _, .bag, k => by simp [D.isP] at k
theorem RfL.dp : ∀ {vs : List V} {ds : List D} {fp : List Addr}, RfL p H vs ds fp → D.isPL ds = true → DpAll p.K H vs (D.toPL ds)
  | _, _, _, .nil, _ => .nil
  | _, _, _, .cons r t, h => by
    simp only [D.isPL, Bool.and_eq_true] at h
    exact .cons (Rf.dp r h.1) (RfL.dp t h.2)
end
theorem Rf.int_ {v : V} {i : Int} {fp : List Addr} (r : Rf p H v (.int i) fp) : v = .int i := by cases r; rfl
theorem Rf.bl_ {v : V} {b : Bool} {fp : List Addr} (r : Rf p H v (.bl b) fp) : v = .bl b := by cases r; rfl
theorem Rf.str_ {v : V} {x : Str} {fp : List Addr} (r : Rf p H v (.str x) fp) : v = .str x := by cases r; rfl
theorem Rf.non_ {v : V} {fp : List Addr} (r : Rf p H v .non fp) : v = .non := by cases r; rfl
theorem Rf.tup_ {v : V} {ds : List D} {fp : List Addr} (r : Rf p H v (.tup ds) fp) : ∃ a vs, v = .ref a ∧ SqT p.K H a vs ∧ RfL p H vs ds fp := by
  cases r with
  | tup h n r => exact ⟨_, _, rfl, h.sq, r⟩
  | ktup h r => exact ⟨_, _, rfl, h.sq, r⟩
theorem Rf.pr_ {v : V} {ds : List D} {fp : List Addr} (r : Rf p H v (.pr ds) fp) : ∃ a vs, v = .ref a ∧ (H a = some (.tup vs) ∧ a ≠ p.g) ∧ RfL p H vs ds fp := by
  cases r with
  | pr h n r => exact ⟨_, _, rfl, ⟨h, n⟩, r⟩
theorem Rf.lst_ {v : V} {ds : List D} {fp : List Addr} (r : Rf p H v (.lst ds) fp) : ∃ a vs f, v = .ref a ∧ H a = some (.lst vs) ∧ a ≠ p.g ∧ fp = a :: f ∧ RfL p H vs ds f := by
  cases r with
  | lst h n r => exact ⟨_, _, _, rfl, h, n, rfl, r⟩
theorem Rf.dct_ {v : V} {ds : List (Key × D)} {fp : List Addr} (r : Rf p H v (.dct ds) fp) : ∃ a kvs, v = .ref a ∧ H a = some (.dK kvs) ∧ a ≠ p.g ∧ fp = [a] ∧ kvs.map (·.1) = ds.map (·.1) ∧ RfL p H (kvs.map (·.2)) (ds.map (·.2)) [] := by
  cases r with
  | dct h n e r => exact ⟨_, _, rfl, h, n, rfl, e, r⟩
end

/-! ### the bag; what a value is held as; the frame's names -/
structure BagAt (g c : Addr) (B : Bag) (H : Hp) : Prop where
  root : H g = some (.lst [.int B.big, .int B.seed, .int (B.at_ : Int), .ref c])
  row : H c = some (.lst (B.cells.map V.int))
  ne : c ≠ g
  big : 0 ≤ B.big
  seed : 0 ≤ B.seed ∧ B.seed < 2147483647
  cells : B.cells.length ≤ 63 ∧ ∀ x ∈ B.cells, 0 ≤ x

/-- the bag and the code tables -/
structure Amb (p : Pl) (B : Bag) (H : Hp) : Prop where
  bag : BagAt p.g p.gc B H
  tabs : LamX.Tabs p.T H
theorem Amb.there {p : Pl} {B : Bag} {H : Hp} (a : Amb p B H) : ∃ o, H p.g = some o := ⟨_, a.bag.root⟩
theorem Amb.same {p : Pl} {B : Bag} {H H' : Hp} (a : Amb p B H) (s : Same H H') : Amb p B H' := by
  obtain ⟨⟨h1, h2, h3, b1, b2, b3⟩, t⟩ := a
  exact ⟨⟨s _ _ h1, s _ _ h2, h3, b1, b2, b3⟩, t.ext s⟩
/-- the lists fp are held as f says: H0 the heap ahead of the statement's expression, Hs the one ahead of this part of it, Z what is shared -/
def Hd (Z : Addr → Prop) (H0 Hs : Hp) (f : Fl) (fp : List Addr) : Prop := match f with
  | .D => fp.Nodup ∧ ∀ a ∈ fp, Hs a = none
  | .R => ∃ a q, fp = a :: q ∧ Hs a = none ∧ a ∉ q ∧ ∀ b ∈ q, Z b ∨ H0 b = none
  | .S => ∀ b ∈ fp, Z b ∨ H0 b = none
  | .BR => ∃ a q, fp = a :: q ∧ ∀ b ∈ q, Z b ∨ H0 b = none
  | .BD => True
/-- r is v -/
def VR (p : Pl) (Z : Addr → Prop) (H0 Hs : Hp) (r : RV) (v : V) (H : Hp) : Prop := ∃ fp, Rf p H v r.d fp ∧ Hd Z H0 Hs r.f fp
theorem Hd.back {g : Addr} {Z : Addr → Prop} {H0 Hs Hr : Hp} {f : Fl} {fp : List Addr} (h : Hd Z H0 Hs f fp) (e : Ext g Hr Hs) : Hd Z H0 Hr f fp := by
  cases f with
  | D => exact ⟨h.1, fun a ha => e.free (h.2 a ha)⟩
  | R =>
    obtain ⟨a, q, h1, h2, h3⟩ := h
    exact ⟨a, q, h1, e.free h2, h3⟩
  | S => exact h
  | BR => exact h
  | BD => exact h
/-- shared or new -/
def Shd (Z : Addr → Prop) (H0 : Hp) (fp : List Addr) : Prop := ∀ b ∈ fp, Z b ∨ H0 b = none
theorem Shd.sub {Z : Addr → Prop} {H0 : Hp} {f1 f2 : List Addr} (h : Shd Z H0 f2) (s : ∀ a ∈ f1, a ∈ f2) : Shd Z H0 f1 := fun b hb => h b (s b hb)
theorem Shd.nil {Z : Addr → Prop} {H0 : Hp} : Shd Z H0 [] := fun _ h => absurd h (by simp)
theorem Shd.app {Z : Addr → Prop} {H0 : Hp} {f1 f2 : List Addr} (h1 : Shd Z H0 f1) (h2 : Shd Z H0 f2) : Shd Z H0 (f1 ++ f2) := fun b hb => (List.mem_append.mp hb).elim (h1 b) (h2 b)
theorem Hd.all {Z : Addr → Prop} {H0 : Hp} {f : Fl} {fp : List Addr} (h : Hd Z H0 H0 f fp) (hf : f.lent = false) : Shd Z H0 fp := by
  cases f with
  | D => exact fun c hc => .inr (h.2 c hc)
  | R =>
    obtain ⟨c, q, rfl, h1, h2, h3⟩ := h
    exact fun x hx => (List.mem_cons.mp hx).elim (fun e => .inr (e ▸ h1)) (h3 x)
  | S => exact h
  | BR => cases hf
  | BD => cases hf
theorem tf_lent {f : Fl} (h : tf f ≠ .BD) : f.lent = false := by cases f <;> first | rfl | exact absurd rfl h
/-- a list's items -/
theorem Hd.kids {Z : Addr → Prop} {H0 : Hp} {f : Fl} {a : Addr} {q : List Addr} (h : Hd Z H0 H0 f (a :: q)) (hf : f ≠ .BD) : Shd Z H0 q := by
  cases f with
  | D => exact fun c hc => .inr (h.2 c (List.mem_cons_of_mem _ hc))
  | R =>
    obtain ⟨c, r, e, h1, h2, h3⟩ := h
    cases e
    exact h3
  | S => exact fun c hc => h c (List.mem_cons_of_mem _ hc)
  | BR =>
    obtain ⟨c, r, e, h3⟩ := h
    cases e
    exact h3
  | BD => exact absurd rfl hf
theorem VR.rf {p : Pl} {Z : Addr → Prop} {H0 Hs : Hp} {r : RV} {v : V} {H : Hp} (h : VR p Z H0 Hs r v H) : ∃ fp, Rf p H v r.d fp := let ⟨fp, a, _⟩ := h; ⟨fp, a⟩
theorem VR.back {p : Pl} {Z : Addr → Prop} {H0 Hs Hr : Hp} {r : RV} {v : V} {H : Hp} (h : VR p Z H0 Hs r v H) (e : Ext p.g Hr Hs) : VR p Z H0 Hr r v H := let ⟨fp, a, b⟩ := h; ⟨fp, a, b.back e⟩
theorem VR.ext {p : Pl} {Z : Addr → Prop} {H0 Hs : Hp} {r : RV} {v : V} {H H' : Hp} (h : VR p Z H0 Hs r v H) (e : Ext p.g H H') : VR p Z H0 Hs r v H' := let ⟨fp, a, b⟩ := h; ⟨fp, a.ext e, b⟩
theorem VR.plain {p : Pl} {Z : Addr → Prop} {H0 Hs : Hp} {d : D} {v : V} {H : Hp} (h : Rf p H v d []) : VR p Z H0 Hs ⟨d, .D⟩ v H := ⟨[], h, List.nodup_nil, fun _ z => absurd z (by simp)⟩
theorem VR.of_flat {p : Pl} {Z : Addr → Prop} {H0 Hs : Hp} {d : D} {v : V} {H : Hp} {fp : List Addr} (h : Rf p H v d fp) (hf : d.flat = true) : VR p Z H0 Hs ⟨d, .D⟩ v H := by
  have e := h.flat hf
  subst e
  exact .plain h
/-- all that is not lent is shared or new -/
theorem VR.shared {p : Pl} {Z : Addr → Prop} {H0 : Hp} {r : RV} {v : V} {H : Hp} (h : VR p Z H0 H0 r v H) (hf : r.f.lent = false) : VR p Z H0 H0 ⟨r.d, .S⟩ v H := let ⟨fp, a, b⟩ := h; ⟨fp, a, b.all hf⟩
/-- the names of the frame -/
structure EnvV (p : Pl) (Z : Addr → Prop) (δ : Env) (σ : L2.St) (H : Hp) : Prop where
  len : δ.length = σ.length
  at_ : ∀ i m d, δ.get i = some (m, d) → ∃ v fp, σ[i]? = some (some v) ∧ Rf p H v d fp ∧ match m with
    | .S => ∀ b ∈ fp, Z b
    | .R => ∃ a q, fp = a :: q ∧ ∀ b ∈ q, Z b
    | .D => True
theorem EnvV.ext {p : Pl} {Z : Addr → Prop} {δ : Env} {σ : L2.St} {H H' : Hp} (h : EnvV p Z δ σ H) (e : Ext p.g H H') : EnvV p Z δ σ H' := ⟨h.len, fun i m d q => by
  obtain ⟨v, fp, h1, h2, h3⟩ := h.at_ i m d q
  exact ⟨v, fp, h1, h2.ext e, h3⟩⟩
end Wh

set_option maxHeartbeats 4000000
/-! Wh, part Bd: dicts. -/
namespace Wh
open PySem PySem.Spec PyProof.Rows L2

section
variable {p : Pl} {H : Hp}
theorem RfL.nil_cons {v : V} {vs : List V} {d : D} {ds : List D} (h : RfL p H (v :: vs) (d :: ds) []) : Rf p H v d [] ∧ RfL p H vs ds [] := by
  generalize e : ([] : List Addr) = fp at h
  cases h with
  | cons a b =>
    obtain ⟨rfl, rfl⟩ := List.append_eq_nil_iff.mp e.symm
    exact ⟨a, b⟩
theorem RfL.cons_nil {v : V} {vs : List V} {d : D} {ds : List D} (a : Rf p H v d []) (b : RfL p H vs ds []) : RfL p H (v :: vs) (d :: ds) [] := RfL.cons a b
/-- a dict's entries: the same keys in the same order, their values flat -/
def DE (p : Pl) (H : Hp) (kvs : List (Key × V)) (dl : List (Key × D)) : Prop := kvs.map (·.1) = dl.map (·.1) ∧ RfL p H (kvs.map (·.2)) (dl.map (·.2)) []
theorem DE.nil : DE p H [] [] := ⟨rfl, .nil⟩
theorem DE.cons {k : Key} {v : V} {d : D} {kvs : List (Key × V)} {dl : List (Key × D)} (r : Rf p H v d []) (h : DE p H kvs dl) : DE p H ((k, v) :: kvs) ((k, d) :: dl) := ⟨congrArg (k :: ·) h.1, .cons_nil r h.2⟩
theorem DE.uncons {kv : Key × V} {kd : Key × D} {kvs : List (Key × V)} {dl : List (Key × D)} (h : DE p H (kv :: kvs) (kd :: dl)) : kv.1 = kd.1 ∧ Rf p H kv.2 kd.2 [] ∧ DE p H kvs dl := by
  obtain ⟨h1, h2⟩ := h
  simp only [List.map_cons, List.cons.injEq] at h1 h2
  obtain ⟨r1, r2⟩ := RfL.nil_cons h2
  exact ⟨h1.1, r1, h1.2, r2⟩
theorem DE.len {kvs : List (Key × V)} {dl : List (Key × D)} (h : DE p H kvs dl) : kvs.length = dl.length := by
  have := congrArg List.length h.1
  simpa using this
theorem DE.keep {H' : Hp} {kvs : List (Key × V)} {dl : List (Key × D)} (h : DE p H kvs dl) (k : KpO p.g H H') : DE p H' kvs dl := ⟨h.1, h.2.keep ⟨k, fun _ z => by cases z⟩⟩
theorem DE.any {kvs : List (Key × V)} {dl : List (Key × D)} (h : DE p H kvs dl) (k : Key) : (kvs.any fun q => decide (q.1 = k)) = dl.any fun q => decide (q.1 = k) := by
  have e : ∀ {α : Type} (l : List (Key × α)), (l.any fun q => decide (q.1 = k)) = (l.map (·.1)).any fun q => decide (q = k) := fun l => by rw [List.any_map]; rfl
  rw [e, e, h.1]
theorem DE.get : ∀ {kvs : List (Key × V)} {dl : List (Key × D)} (_ : DE p H kvs dl) {k : Key} {d : D}, dGet dl k = some d → ∃ v, valV kvs k = some v ∧ Rf p H v d []
  | [], [], _, _, _, e => by cases e
  | kv :: kvs, [], h, _, _, e => by cases e
  | [], kd :: dl, h, _, _, e => by have := h.1; cases this
  | kv :: kvs, kd :: dl, h, k, d, e => by
    obtain ⟨h1, h2, h3⟩ := h.uncons
    by_cases q : kd.1 = k
    · have : dGet (kd :: dl) k = some kd.2 := by simp [dGet, List.find?_cons, q]
      rw [this] at e
      cases e
      exact ⟨kv.2, valV_pos (h1.trans q), h2⟩
    · have : dGet (kd :: dl) k = dGet dl k := by simp [dGet, List.find?_cons, q]
      rw [this] at e
      rw [valV_neg (by rw [h1]; exact q)]
      exact DE.get h3 e
theorem DE.none : ∀ {kvs : List (Key × V)} {dl : List (Key × D)} (_ : DE p H kvs dl) {k : Key}, dGet dl k = none → valV kvs k = none
  | [], [], _, _, e => rfl
  | kv :: kvs, [], h, _, e => by have := h.1; cases this
  | [], kd :: dl, h, _, e => rfl
  | kv :: kvs, kd :: dl, h, k, e => by
    obtain ⟨h1, h2, h3⟩ := h.uncons
    by_cases q : kd.1 = k
    · have : dGet (kd :: dl) k = some kd.2 := by simp [dGet, List.find?_cons, q]
      rw [this] at e
      cases e
    · have : dGet (kd :: dl) k = dGet dl k := by simp [dGet, List.find?_cons, q]
      rw [this] at e
      rw [valV_neg (by rw [h1]; exact q)]
      exact DE.none h3 e
theorem DE.put {kvs : List (Key × V)} {dl : List (Key × D)} (h : DE p H kvs dl) {k : Key} {v : V} {d : D} (r : Rf p H v d []) : DE p H (putK kvs k v) (dPut dl k d) := by
  unfold putK dPut
  rw [h.any k]
  split
  · rename_i hc; clear hc
    induction kvs generalizing dl with
    | nil => cases dl with
      | nil => exact .nil
      | cons kd dl => have := h.1; cases this
    | cons kv kvs ih => cases dl with
      | nil => have := h.1; cases this
      | cons kd dl =>
        obtain ⟨h1, h2, h3⟩ := h.uncons
        rw [List.map_cons, List.map_cons, h1]
        by_cases q : kd.1 = k
        · rw [if_pos q, if_pos q]
          exact .cons r (ih h3)
        · rw [if_neg q, if_neg q]
          have : kv = (kd.1, kv.2) := by rw [← h1]
          rw [this]
          exact .cons h2 (ih h3)
  · rename_i hc; clear hc
    induction kvs generalizing dl with
    | nil => cases dl with
      | nil => exact .cons r .nil
      | cons kd dl => have := h.1; cases this
    | cons kv kvs ih => cases dl with
      | nil => have := h.1; cases this
      | cons kd dl =>
        obtain ⟨h1, h2, h3⟩ := h.uncons
        have e1 : kv = (kd.1, kv.2) := by rw [← h1]
        have e2 : kd = (kd.1, kd.2) := rfl
        rw [List.cons_append, List.cons_append, e1]
        exact .cons h2 (ih h3)
theorem dPut_len {dl : List (Key × D)} {k : Key} {d : D} : (dPut dl k d).length ≤ dl.length + 1 := by
  unfold dPut
  split
  · rw [List.length_map]; omega
  · rw [List.length_append]; exact Nat.le_refl _
theorem keyOf_ok {v : V} {d : D} {fp : List Addr} {k : Key} (r : Rf p H v d fp) (e : keyOf d = some k) : v = kV k := by
  cases d with
  | int i => cases r.int_; cases e; rfl
  | str s => cases r.str_; cases e; rfl
  | _ => cases e
theorem dctOf_app : ∀ {xs ys : List RV} {dl : List (Key × D)}, dctOf (xs ++ ys) dl = (dctOf xs dl).bind fun dl => dctOf ys dl
  | [], ys, dl => rfl
  | ⟨.pr [a, b], f⟩ :: r, ys, dl => by
    have e1 : ∀ zs, dctOf (⟨.pr [a, b], f⟩ :: zs) dl = match keyOf a with
      | some k => if b.flat then dctOf zs (dPut dl k b) else none
      | none => none := fun zs => rfl
    rw [List.cons_append, e1, e1]
    cases keyOf a with
    | none => rfl
    | some k =>
      dsimp only
      split
      · exact dctOf_app
      · rfl
  | ⟨.pr [], f⟩ :: r, ys, dl => rfl
  | ⟨.pr [_], f⟩ :: r, ys, dl => rfl
  | ⟨.pr (_ :: _ :: _ :: _), f⟩ :: r, ys, dl => rfl
  | ⟨.non, f⟩ :: r, ys, dl => rfl
  | ⟨.bl _, f⟩ :: r, ys, dl => rfl
  | ⟨.int _, f⟩ :: r, ys, dl => rfl
  | ⟨.str _, f⟩ :: r, ys, dl => rfl
  | ⟨.tup _, f⟩ :: r, ys, dl => rfl
  | ⟨.lst _, f⟩ :: r, ys, dl => rfl
  | ⟨.dct _, f⟩ :: r, ys, dl => rfl
  | ⟨.set _, f⟩ :: r, ys, dl => rfl
  | ⟨.fn _, f⟩ :: r, ys, dl => rfl
  | ⟨.bag, f⟩ :: r, ys, dl => rfl
end

section
variable {X : Cx} {p : Pl}
def rIxDct : R2 := fun x y H Q => ∃ a v, x = .ref a ∧ DGet H a y (some v) ∧ Q v H
theorem ix_dct (hu : X.A.units + 1 < cLine) : IxR X rIxDct := by
  intro value slice pins s σ H x y v u Q I rx ry h hs
  obtain ⟨a, w, rfl, g, q⟩ := h
  obtain rfl : v = Value.ref a := rx
  have hT := dict_typeIs I g
  unfold subscriptTail
  refine wpAny_bind ?_
  rw [getitemInPython_of_ne hT.not_modules]
  refine wpAny_bind (wpAny_specialOf hT PySem.F.slot_dict_getitem.lookup ?_)
  have fin : wpAny (model X.prog X.w) X.A (subscripted slice false (.ref a) u) (fun r s₃ => wpAny (model X.prog X.w) X.A (letTemporaryGo value (.ref a) r >>= fun _ => pure r) (EP X pins σ Q) X.xe s₃) X.xe s := by
    rw [hs]
    exact wpAny_operating (d_getItem hu I g ry fun w' s3 I3 rw' => wpAny_bind (wpAny_letTemporaryGo (wpAny_pure ⟨w, H, I3, rw', q⟩)))
  first
    | exact wpAny_pure (wpAny_bind fin)
    | exact wpAny_bind (wpAny_pure (wpAny_bind fin))
    | exact wpAny_bind fin
end
end Wh

set_option maxHeartbeats 4000000
/-! Wh, part F: new tuples, their records told. -/
namespace Wh
open PySem PySem.Spec PyProof.Rows L2

section
variable {X : Cx}
/-- a new tuple at q -/
abbrev nwT (q : Addr) (vs : List V) (H : Hp) (Q : V → Hp → Prop) : Prop := ∀ o : Obj, o.dict = none → Q (.ref q) (upd H q (.frz o (.tup vs)))
def tTupF (t : TA) : TE := fun σ H Q => t σ H fun xs H1 => xs.length ≤ sizeLine ∧ ∀ q, H1 q = none → nwT q xs H1 Q
theorem laidT {pins : List (Addr × Obj)} {σ : L2.St} {H : Hp} {s : Shared} {xs : List V} {us : List Value} (I : Inv X pins σ H s) (r : Vals xs us) (hz : xs.length ≤ sizeLine) (t' : Nat) :
    Inv X pins σ (upd H s.heap.objs.size (.frz { cls := .type "tuple", data := .seq us.toArray } (.tup xs))) { s with heap := s.heap.push { cls := .type "tuple", data := .seq us.toArray }, toks := t' } :=
  I.laid (fun _ _ e => Heap.get?_push_of_some _ e) (Nat.le_refl _) ⟨Heap.get?_push_size _ rfl, hz, us, r, IsTup.new _ _⟩
theorem pe_tupF {es : List Expr} {t : TA} {x1 : Nat} {pos : Pos} (h : PA X es t) : PE X (.Tuple es x1 pos) (tTupF t) := by
  refine ⟨fun pins s σ H Q I hq => wpAny_Tuple_spliced (thn (h.run pos pins s σ H _ I hq) fun us s1 ⟨xs, H1, I1, r, z, q⟩ => ⟨by rw [← r.length]; exact z, ?_⟩)⟩
  exact ⟨.ref s1.heap.objs.size, _, laidT I1 r z s1.toks, rfl, q _ (I1.hok.fresh (Nat.le_refl _)) _ rfl⟩
/-- t + u -/
def rCatF (K : PySem.W.Frag) : R2 := fun x y H Q => ∃ a b xs ys, x = .ref a ∧ y = .ref b ∧ SqT K H a xs ∧ SqT K H b ys ∧ xs.length + ys.length ≤ sizeLine ∧ (xs = [] → Q (.ref b) H) ∧ (xs ≠ [] → ys = [] → Q (.ref a) H) ∧ (xs ≠ [] → ys ≠ [] → ∀ q, H q = none → nwT q (xs ++ ys) H Q)
theorem cat_own : OpR X (binaryOp .Add) (rCatF X.K) := by
  intro pins s σ H x y v u Q I rx ry h
  obtain ⟨a, b, xs, ys, rfl, rfl, ha, hb, hz, k0, k1, k2⟩ := h
  cases rx
  cases ry
  obtain ⟨us, r1, p1, _⟩ := I.tuple ha
  obtain ⟨ws, r2, p2, _⟩ := I.tuple hb
  rcases xs with _ | ⟨x0, xs⟩
  · cases r1
    exact cat_tup0 p1 p2 ⟨.ref b, H, I, rfl, k0 rfl⟩
  · have ne : x0 :: xs ≠ [] := List.cons_ne_nil _ _
    refine HT.cat_tup p1 p2 (fun z => ne (r1.nil_iff.mp z)) (fun z => ⟨.ref a, H, I, rfl, k1 ne (r2.nil_iff.mp z)⟩) (fun z => ?_) (by rw [← r1.length, ← r2.length]; exact hz)
    exact ⟨.ref s.heap.objs.size, _, laidT I (r1.append r2) (by rw [List.length_append]; exact hz) s.toks, rfl, k2 ne (fun w => z (r2.nil_iff.mpr w)) _ (I.hok.fresh (Nat.le_refl _)) _ rfl⟩
/-- t[lo:hi] -/
def rCutF (K : PySem.W.Frag) : V → Option Int → Option Int → Hp → VK → Prop := fun x lo hi H Q => ∃ a xs, x = .ref a ∧ SqT K H a xs ∧ ((HT.sIx xs.length 0 lo = 0 ∧ HT.sIx xs.length xs.length hi = xs.length) → Q (.ref a) H) ∧ (¬ (HT.sIx xs.length 0 lo = 0 ∧ HT.sIx xs.length xs.length hi = xs.length) → ∀ q, H q = none → nwT q (cutV xs lo hi) H Q)
theorem cut_own : SlR X (rCutF X.K) := by
  intro pins s σ H x v vl vu lo hi sl Q I rx hs pl pu h
  obtain ⟨a, xs, rfl, hx, k1, k2⟩ := h
  cases rx
  obtain ⟨us, r, pt, hz⟩ := I.tuple hx
  have el : us.toArray.size = xs.length := by rw [List.size_toArray, ← r.length]
  refine ⟨"tuple", _, PyProof.Rows.slot_tuple_getitem.lookup, pt.typeIs, ?_⟩
  by_cases hw : HT.sIx xs.length 0 lo = 0 ∧ HT.sIx xs.length xs.length hi = xs.length
  · exact getItem_tuple_whole pt hs pl pu (by rw [el]; exact hw) ⟨.ref a, H, I, rfl, k1 hw⟩
  · refine HT.getItem_tuple_cut pt hs pl pu (by rw [el]; exact hw) ?_ (by rw [el]; exact hz)
    rw [el]
    exact ⟨.ref s.heap.objs.size, _, laidT I ((r.drop (HT.sIx xs.length 0 lo)).take (HT.sIx xs.length xs.length hi - HT.sIx xs.length 0 lo)) (Nat.le_trans (cutV_length xs lo hi) hz) s.toks, rfl, k2 hw _ (I.hok.fresh (Nat.le_refl _)) _ rfl⟩
/-- tuple(x) -/
theorem tuple_own : CallR X (.type "tuple") (fun xs H Q => ∃ a ys, xs = [.ref a] ∧ ((SqL X.K H a ys ∧ ∀ q, H q = none → nwT q ys H Q) ∨ (SqT X.K H a ys ∧ Q (.ref a) H))) := by
  intro pins s σ H xs us Q I r h
  obtain ⟨a, ys, rfl, h⟩ := h
  obtain ⟨u, rfl, rx⟩ := vals1 r
  cases rx
  rcases h with ⟨hq, k⟩ | ⟨hq, k⟩
  · obtain ⟨its, ri, pl, hz⟩ := I.list hq
    have el := ri.length
    refine call_tuple_list pl.isList (fun h' kp => ?_) (by simp only [List.size_toArray]; omega)
    have J : Inv X pins σ H { s with heap := h' } := I.kept (t' := s.toks) kp
    exact ⟨.ref h'.objs.size, _, laidT J ri hz s.toks, rfl, k _ (J.hok.fresh (Nat.le_refl _)) _ rfl⟩
  · obtain ⟨its, ri, pt, hz⟩ := I.tuple hq
    exact call_tuple_same pt ⟨.ref a, H, I, rfl, k⟩
end
end Wh

set_option maxHeartbeats 4000000
/-! Wh, part C: each operation on values does what o2F, ixF, .. say. -/
namespace Wh
open PySem PySem.Spec PyProof.Rows L2

mutual
theorem isP_plain : ∀ d : D, d.isP = true → d.toP.plain = true
  | .non, _ => rfl
  | .bl _, _ => rfl
  | .int _, _ => rfl
  | .str _, _ => rfl
  | .tup l, h => by simp only [D.toP, PyData.plain]; exact isPL_plain l (by simpa [D.isP] using h)
  | .lst l, h => by simp only [D.toP, PyData.plain]; exact isPL_plain l (by simpa [D.isP] using h)
  | .dct _, h => by simp [D.isP] at h
  | .set _, h => by simp [D.isP] at h
  | .fn _, h => by simp [D.isP] at h
  | .bag, h => by simp [D.isP] at h
  | .pr _, h => by simp [D.isP] at h
theorem isPL_plain : ∀ l : List D, D.isPL l = true → PyData.plainAll (D.toPL l) = true
  | [], _ => rfl
  | d :: r, h => by
    simp only [D.isPL, Bool.and_eq_true] at h
    simp only [D.toPL, PyData.plainAll, isP_plain d h.1, isPL_plain r h.2, Bool.and_self]
end
mutual
theorem toP_depth : ∀ d : D, d.toP.depth ≤ d.dep
  | .non => by simp [D.toP, PyData.depth]
  | .bl _ => by simp [D.toP, PyData.depth]
  | .int _ => by simp [D.toP, PyData.depth]
  | .str _ => by simp [D.toP, PyData.depth]
  | .tup l => by simp only [D.toP, PyData.depth, D.dep]; exact Nat.succ_le_succ (toPL_depth l)
  | .lst l => by simp only [D.toP, PyData.depth, D.dep]; exact Nat.succ_le_succ (toPL_depth l)
  | .dct _ => by simp [D.toP, PyData.depth]
  | .set _ => by simp [D.toP, PyData.depth]
  | .fn _ => by simp [D.toP, PyData.depth]
  | .bag => by simp [D.toP, PyData.depth]
  | .pr _ => by simp [D.toP, PyData.depth]
theorem toPL_depth : ∀ l : List D, PyData.depthAll (D.toPL l) ≤ D.depL l
  | [] => by simp [D.toPL, PyData.depthAll]
  | d :: r => by
    simp only [D.toPL, PyData.depthAll, D.depL]
    have h1 := toP_depth d
    have h2 := toPL_depth r
    omega
end
theorem toPL_map : ∀ l : List D, D.toPL l = l.map D.toP
  | [] => rfl
  | d :: r => by rw [D.toPL, toPL_map r]; rfl
theorem okP_iff {d : D} (h : okP d = true) : d.isP = true ∧ d.dep ≤ 60 := by
  unfold okP at h
  simpa using h

/-- a rule by values, told by what f makes of them -/
def rD2 (p : Pl) (f : RV → RV → Option RV) : R2 := fun x y H Q => ∃ (Z : Addr → Prop) (H0 Hs : Hp) (rx ry rz : RV), VR p Z H0 H0 rx x H ∧ VR p Z H0 H0 ry y H ∧ Ext p.g Hs H ∧ (∃ o, H p.g = some o) ∧ f rx ry = some rz ∧
  ∀ v H', Same H H' → VR p Z H0 Hs rz v H' → Q v H'
theorem dp_of {p : Pl} {Z : Addr → Prop} {H0 Hs H : Hp} {r : RV} {v : V} (h : VR p Z H0 Hs r v H) (hp : r.d.isP = true) : Dp p.K H v r.d.toP := let ⟨_, a⟩ := h.rf; a.dp hp

section
variable {X : Cx} {p : Pl}
theorem plain_some {d : D} {r : RV} (h : plain d = some r) : r = ⟨d, .D⟩ := (Option.some.inj h).symm
/-- two ints to anything plain -/
theorem o2_ints {op : Value → Value → Sem Value} {f : RV → RV → Option RV} {C : Int → Int → Prop} {g : Int → Int → V} {gd : Int → Int → D} (ho : OpR X op (rI C g)) (hg : ∀ i j p' H', Rf p' H' (g i j) (gd i j) [])
    (hf : ∀ rx ry rz, f rx ry = some rz → ∃ i j, rx.d = .int i ∧ ry.d = .int j ∧ C i j ∧ rz = ⟨gd i j, .D⟩) : OpR X op (rD2 p f) := by
  intro pins s σ H x y v u Q I rx ry h
  obtain ⟨Z, H0, Hs, dx, dy, dz, hx, hy, _, _, e, q⟩ := h
  obtain ⟨i, j, e1, e2, c, e3⟩ := hf _ _ _ e
  obtain ⟨_, r1⟩ := hx.rf
  obtain ⟨_, r2⟩ := hy.rf
  rw [e1] at r1
  rw [e2] at r2
  have v1 := r1.int_
  have v2 := r2.int_
  subst v1 v2 e3
  exact ho pins s σ H _ _ v u Q I rx ry ⟨i, j, rfl, rfl, c, q _ H (Same.refl H) (.plain (hg i j p H))⟩
theorem rI0_I {op : Value → Value → Sem Value} {g : Int → Int → V} (h : OpR X op (rI0 g)) : OpR X op (rI (fun _ _ => True) g) := fun pins s σ H x y v u Q I rx ry ⟨i, j, e1, e2, _, q⟩ => h pins s σ H x y v u Q I rx ry ⟨i, j, e1, e2, q⟩
end

section
variable {p : Pl} {Z : Addr → Prop} {H0 Hs H : Hp}
theorem flagC_ok {f : Fl} {d : D} {r : RV} {v : V} {f1 : List Addr} (h : Rf p H v d f1) (hs : f ≠ .BD → Shd Z H0 f1) (e : flagC f d = some r) : VR p Z H0 Hs r v H := by
  unfold flagC at e
  split at e
  · rename_i hd
    cases e
    exact .of_flat h hd
  · cases f <;> first | cases e | skip
    all_goals exact ⟨f1, h, hs (by intro z; cases z)⟩
theorem flagT_ok {f : Fl} {l : List D} {r : RV} {v : V} {f1 : List Addr} (h : Rf p H v (.tup l) f1) (hs : f ≠ .BD → Shd Z H0 f1) (e : flagT f l = some r) : VR p Z H0 Hs r v H := by
  unfold flagT at e
  split at e
  · rename_i hd
    cases e
    exact .of_flat h (by simpa [D.flat] using hd)
  · cases f <;> first | cases e | skip
    all_goals exact ⟨f1, h, hs (by intro z; cases z)⟩
/-- a new list of items -/
theorem flagN_ok {f : Fl} {l : List D} {r : RV} {q : Addr} {vs : List V} {f1 : List Addr} (hq : H q = some (.lst vs)) (hg : q ≠ p.g) (hn : Hs q = none) (h : RfL p H vs l f1) (hq1 : q ∉ f1) (hs : f ≠ .BD → Shd Z H0 f1) (e : flagN f l (.lst l) = some r) : VR p Z H0 Hs r (.ref q) H := by
  unfold flagN at e
  split at e
  · rename_i hd
    cases e
    have e1 := h.flat hd
    subst e1
    exact ⟨[q], .lst hq hg h, by simp, fun a ha => by rw [List.mem_singleton.mp ha]; exact hn⟩
  · cases f <;> first | cases e | skip
    all_goals exact ⟨q :: f1, .lst hq hg h, q, f1, rfl, hn, hq1, hs (by intro z; cases z)⟩
theorem RfL.fresh {vs : List V} {l : List D} {f1 : List Addr} (h : RfL p H vs l f1) {q : Addr} (n : H q = none) : q ∉ f1 := fun z => by
  obtain ⟨us, e, _⟩ := h.there q z
  rw [n] at e; cases e
theorem nog {q : Addr} (n : H q = none) (hg : ∃ o, H p.g = some o) : q ≠ p.g := fun z => by
  obtain ⟨o, e⟩ := hg
  rw [← z, n] at e; cases e
end
section
variable {X : Cx} {p : Pl}
theorem op_catD (hK : p.K = X.K) : OpR X (binaryOp .Add) (rD2 p (o2F .add)) := by
  intro pins s σ H x y v u Q I rx ry h
  obtain ⟨Z, H0, Hs, ⟨dx, fx⟩, ⟨dy, fy⟩, dz, ⟨f1, r1, h1⟩, ⟨f2, r2, h2⟩, e0, hg, e, q⟩ := h
  cases dx with
  | int i => cases dy with
    | int j =>
      cases plain_some (show plain (.int (i + j)) = some dz from e)
      cases r1.int_; cases r2.int_
      exact op_add pins s σ H _ _ v u Q I rx ry ⟨i, j, rfl, rfl, q _ H (Same.refl H) (.plain (.int _))⟩
    | _ => cases e
  | str i => cases dy with
    | str j =>
      have e : (if i.length + j.length ≤ 1000000 then plain (.str (i ++ j)) else none) = some dz := e
      split at e
      · rename_i hl
        cases plain_some e
        cases r1.str_; cases r2.str_
        exact op_add_str pins s σ H _ _ v u Q I rx ry ⟨i, j, rfl, rfl, by rw [sizeLine_eq]; omega, q _ H (Same.refl H) (.plain (.str _))⟩
      · cases e
    | _ => cases e
  | tup a => cases dy with
    | tup b =>
      have e : (if a.length + b.length ≤ 1000000 then flagT (if fx.lent || fy.lent then .BD else .S) (a ++ b) else none) = some dz := e
      split at e
      · rename_i hl
        obtain ⟨aa, vs, rfl, s1, l1⟩ := r1.tup_
        obtain ⟨bb, ws, rfl, s2, l2⟩ := r2.tup_
        have n1 := l1.length
        have n2 := l2.length
        have sh : (if (fx.lent || fy.lent) = true then Fl.BD else Fl.S) ≠ .BD → Shd Z H0 (f1 ++ f2) := fun hb => by
          have : fx.lent = false ∧ fy.lent = false := by
            cases c1 : fx.lent <;> cases c2 : fy.lent <;> simp [c1, c2] at hb ⊢
          exact (Hd.all (f := fx) h1 this.1).app (Hd.all (f := fy) h2 this.2)
        rw [hK] at s1 s2
        refine cat_own pins s σ H _ _ v u Q I rx ry ⟨aa, bb, vs, ws, rfl, rfl, s1, s2, by rw [n1, n2, sizeLine_eq]; omega, fun z => ?_, fun _ z => ?_, fun _ _ q' hn ob hob => ?_⟩
        · subst z
          have z2 : a = [] := List.eq_nil_of_length_eq_zero n1.symm
          subst z2
          cases l1
          exact q _ H (Same.refl H) (flagT_ok (f1 := f2) r2 sh e)
        · subst z
          have z2 : b = [] := List.eq_nil_of_length_eq_zero n2.symm
          subst z2
          cases l2
          rw [List.append_nil] at e sh
          exact q _ H (Same.refl H) (flagT_ok (f1 := f1) r1 sh e)
        · have sm := Same.new (o := .frz ob (.tup (vs ++ ws))) hn
          exact q _ _ sm (flagT_ok (.tup ⟨ob, upd_same, hob⟩ (nog hn hg) ((l1.append l2).ext (.of_same sm))) sh e)
      · cases e
    | _ => cases e
  | lst a => cases dy with
    | lst b =>
      have e : (if a.length + b.length ≤ 1000000 then flagN (if fx = .BD ∨ fy = .BD then .BD else .S) (a ++ b) (.lst (a ++ b)) else none) = some dz := e
      split at e
      · rename_i hl
        obtain ⟨aa, vs, g1, rfl, s1, k1, rfl, l1⟩ := r1.lst_
        obtain ⟨bb, ws, g2, rfl, s2, k2, rfl, l2⟩ := r2.lst_
        have n1 := l1.length
        have n2 := l2.length
        refine op_cat pins s σ H _ _ v u Q I rx ry ⟨aa, bb, vs, ws, rfl, rfl, s1, s2, by rw [n1, n2, sizeLine_eq]; omega, fun q' hn => ?_⟩
        have sm := Same.new (o := .lst (vs ++ ws)) hn
        refine q _ _ sm (flagN_ok upd_same (nog hn hg) (e0.free hn) ((l1.append l2).ext (.of_same sm)) ((l1.append l2).fresh hn) (fun hb => ?_) e)
        have hb : fx ≠ .BD ∧ fy ≠ .BD := by
          constructor
          · intro z; rw [if_pos (Or.inl z)] at hb; exact hb rfl
          · intro z; rw [if_pos (Or.inr z)] at hb; exact hb rfl
        exact (Hd.kids (f := fx) h1 hb.1).app (Hd.kids (f := fy) h2 hb.2)
      · cases e
    | _ => cases e
  | _ => cases e
theorem op_subD : OpR X (binaryOp .Sub) (rD2 p (o2F .sub)) := o2_ints (gd := fun i j => .int (i - j)) (rI0_I op_sub) (fun _ _ _ _ => .int _) fun rx ry rz h => by
  obtain ⟨dx, fx⟩ := rx
  obtain ⟨dy, fy⟩ := ry
  cases dx <;> (first | (cases dy <;> first | exact ⟨_, _, rfl, rfl, trivial, plain_some h⟩ | cases h) | cases h)
theorem op_mulD : OpR X (binaryOp .Mult) (rD2 p (o2F .mul)) := o2_ints (gd := fun i j => .int (i * j)) op_mul (fun _ _ _ _ => .int _) fun rx ry rz h => by
  obtain ⟨dx, fx⟩ := rx
  obtain ⟨dy, fy⟩ := ry
  cases dx with
  | int i => cases dy with
    | int j =>
      have h : (if (-(2 ^ 64) < i ∧ i < 2 ^ 64) ∨ (-(2 ^ 64) < j ∧ j < 2 ^ 64) then plain (.int (i * j)) else none) = some rz := h
      split at h
      · rename_i hc
        exact ⟨_, _, rfl, rfl, hc, plain_some h⟩
      · cases h
    | _ => cases h
  | _ => cases h
theorem op_modD : OpR X (binaryOp .Mod) (rD2 p (o2F .mod)) := o2_ints (gd := fun i j => .int (i.fmod j)) op_modN (fun _ _ _ _ => .int _) fun rx ry rz h => by
  obtain ⟨dx, fx⟩ := rx
  obtain ⟨dy, fy⟩ := ry
  cases dx with
  | int i => cases dy with
    | int j =>
      have h : (if j = 0 then none else plain (.int (i.fmod j))) = some rz := h
      split at h
      · cases h
      · rename_i hc
        exact ⟨_, _, rfl, rfl, hc, plain_some h⟩
    | _ => cases h
  | _ => cases h
theorem op_fdivD : OpR X (binaryOp .FloorDiv) (rD2 p (o2F .fdiv)) := o2_ints (gd := fun i j => .int (i.fdiv j)) op_fdivN (fun _ _ _ _ => .int _) fun rx ry rz h => by
  obtain ⟨dx, fx⟩ := rx
  obtain ⟨dy, fy⟩ := ry
  cases dx with
  | int i => cases dy with
    | int j =>
      have h : (if j ≠ 0 ∧ j.natAbs < 1073741824 then plain (.int (i.fdiv j)) else none) = some rz := h
      split at h
      · rename_i hc
        exact ⟨_, _, rfl, rfl, hc, plain_some h⟩
      · cases h
    | _ => cases h
  | _ => cases h
theorem op_powD : OpR X (binaryOp .Pow) (rD2 p (o2F .pow)) := o2_ints (gd := fun i j => .int (i ^ j.toNat)) op_pow (fun _ _ _ _ => .int _) fun rx ry rz h => by
  obtain ⟨dx, fx⟩ := rx
  obtain ⟨dy, fy⟩ := ry
  cases dx with
  | int i => cases dy with
    | int j =>
      have h : (if 0 ≤ j ∧ j ≤ 1000000 ∧ i.natAbs < 2 ^ 64 then plain (.int (i ^ j.toNat)) else none) = some rz := h
      split at h
      · rename_i hc
        exact ⟨_, _, rfl, rfl, hc, plain_some h⟩
      · cases h
    | _ => cases h
  | _ => cases h
theorem op_ltD : OpR X (compareOp .Lt) (rD2 p (o2F .lt)) := o2_ints (gd := fun i j => .bl (decide (i < j))) (rI0_I op_lt) (fun _ _ _ _ => .bl _) fun rx ry rz h => by
  obtain ⟨dx, fx⟩ := rx
  obtain ⟨dy, fy⟩ := ry
  cases dx <;> (first | (cases dy <;> first | exact ⟨_, _, rfl, rfl, trivial, plain_some h⟩ | cases h) | cases h)
theorem op_leD : OpR X (compareOp .LtE) (rD2 p (o2F .le)) := o2_ints (gd := fun i j => .bl (decide (i ≤ j))) (rI0_I op_le) (fun _ _ _ _ => .bl _) fun rx ry rz h => by
  obtain ⟨dx, fx⟩ := rx
  obtain ⟨dy, fy⟩ := ry
  cases dx <;> (first | (cases dy <;> first | exact ⟨_, _, rfl, rfl, trivial, plain_some h⟩ | cases h) | cases h)
theorem op_gtD : OpR X (compareOp .Gt) (rD2 p (o2F .gt)) := o2_ints (gd := fun i j => .bl (decide (j < i))) (rI0_I op_gt) (fun _ _ _ _ => .bl _) fun rx ry rz h => by
  obtain ⟨dx, fx⟩ := rx
  obtain ⟨dy, fy⟩ := ry
  cases dx <;> (first | (cases dy <;> first | exact ⟨_, _, rfl, rfl, trivial, plain_some h⟩ | cases h) | cases h)
theorem op_geD : OpR X (compareOp .GtE) (rD2 p (o2F .ge)) := o2_ints (gd := fun i j => .bl (decide (j ≤ i))) (rI0_I op_ge) (fun _ _ _ _ => .bl _) fun rx ry rz h => by
  obtain ⟨dx, fx⟩ := rx
  obtain ⟨dy, fy⟩ := ry
  cases dx <;> (first | (cases dy <;> first | exact ⟨_, _, rfl, rfl, trivial, plain_some h⟩ | cases h) | cases h)
/-- what reads as data -/
theorem reads_of {pins : List (Addr × Obj)} {s : Shared} {σ : L2.St} {H : Hp} (I : Inv X pins σ H s) (hK : p.K = X.K) {v : V} {u : Value} {d : D} {fp : List Addr} (r : Rf p H v d fp) (hd : d.isP = true) (ru : RelV v u) : ∃ as, Reads s.heap u d.toP as :=
  Dp.reads I d.toP v u (by rw [← hK]; exact r.dp hd) ru
theorem room_eq {u a b : Nat} (hu : u + 64 < cLine) (ha : a ≤ 60) : u + min a b < cLine := by
  have := Nat.min_le_left a b
  omega
theorem op_eqDD (hK : p.K = X.K) (hu : X.A.units + 64 < cLine) : OpR X (compareOp .Eq) (rD2 p (o2F .eq)) := by
  intro pins s σ H x y v u Q I rx ry h
  obtain ⟨Z, H0, Hs, dx, dy, dz, ⟨f1, r1, h1⟩, ⟨f2, r2, h2⟩, e0, hg, e, q⟩ := h
  have e : (if (okP dx.d && okP dy.d) = true then plain (.bl (eqD dx.d dy.d)) else none) = some dz := e
  split at e
  · rename_i hp
    simp only [Bool.and_eq_true] at hp
    cases plain_some e
    obtain ⟨as, a1⟩ := reads_of I hK r1 (okP_iff hp.1).1 rx
    obtain ⟨bs, a2⟩ := reads_of I hK r2 (okP_iff hp.2).1 ry
    exact SeqAt.eq_plain a1 a2 (isP_plain _ (okP_iff hp.1).1) (isP_plain _ (okP_iff hp.2).1) (room_eq hu (Nat.le_trans (toP_depth _) (okP_iff hp.1).2)) ⟨.bl _, H, I, rfl, q _ H (Same.refl H) (.plain (.bl _))⟩
  · cases e
theorem op_neDD (hK : p.K = X.K) (hu : X.A.units + 64 < cLine) : OpR X (compareOp .NotEq) (rD2 p (o2F .ne)) := by
  intro pins s σ H x y v u Q I rx ry h
  obtain ⟨Z, H0, Hs, dx, dy, dz, ⟨f1, r1, h1⟩, ⟨f2, r2, h2⟩, e0, hg, e, q⟩ := h
  have e : (if (okP dx.d && okP dy.d) = true then plain (.bl (!eqD dx.d dy.d)) else none) = some dz := e
  split at e
  · rename_i hp
    simp only [Bool.and_eq_true] at hp
    cases plain_some e
    obtain ⟨as, a1⟩ := reads_of I hK r1 (okP_iff hp.1).1 rx
    obtain ⟨bs, a2⟩ := reads_of I hK r2 (okP_iff hp.2).1 ry
    exact SeqAt.ne_plain a1 a2 (isP_plain _ (okP_iff hp.1).1) (isP_plain _ (okP_iff hp.2).1) (room_eq hu (Nat.le_trans (toP_depth _) (okP_iff hp.1).2)) ⟨.bl _, H, I, rfl, q _ H (Same.refl H) (.plain (.bl _))⟩
  · cases e
theorem inL_any (x : D) (l : List D) : ((D.toPL l).any fun z => PyData.eqv z x.toP) = inL x l := by
  rw [toPL_map, List.any_map]
  rfl
theorem op_inDD (hK : p.K = X.K) (hu : X.A.units + 65 < cLine) : OpR X (compareOp .In) (rD2 p (o2F .isin)) := by
  intro pins s σ H x y v u Q I rx ry h
  obtain ⟨Z, H0, Hs, dx, ⟨dy, fy⟩, dz, ⟨f1, r1, h1⟩, ⟨f2, r2, h2⟩, e0, hg, e, q⟩ := h
  cases dy with
  | lst l =>
    have e : (if (okP dx.d && okP (.lst l)) = true then plain (.bl (inL dx.d l)) else none) = some dz := e
    split at e
    · rename_i hp
      simp only [Bool.and_eq_true] at hp
      cases plain_some e
      obtain ⟨as, a1⟩ := reads_of I hK r1 (okP_iff hp.1).1 rx
      obtain ⟨bs, a2⟩ := reads_of I hK r2 (okP_iff hp.2).1 ry
      have b1 := okP_iff hp.1
      have b2 := okP_iff hp.2
      obtain ⟨aa, vs, g1, rfl, _⟩ := r2.lst_
      cases ry
      refine SeqAt.in_list_data a2 a1 (isPL_plain l (by simpa [D.isP] using b2.1)) (isP_plain _ b1.1) ?_ ⟨.bl _, H, I, rfl, ?_⟩
      · have := toP_depth dx.d
        have := Nat.min_le_right (PyData.depthAll (D.toPL l)) dx.d.toP.depth
        omega
      · rw [inL_any]
        exact q _ H (Same.refl H) (.plain (.bl _))
    · cases e
  | tup l =>
    have e : (if (okP dx.d && okP (.tup l)) = true then plain (.bl (inL dx.d l)) else none) = some dz := e
    split at e
    · rename_i hp
      simp only [Bool.and_eq_true] at hp
      cases plain_some e
      obtain ⟨as, a1⟩ := reads_of I hK r1 (okP_iff hp.1).1 rx
      obtain ⟨bs, a2⟩ := reads_of I hK r2 (okP_iff hp.2).1 ry
      have b1 := okP_iff hp.1
      have b2 := okP_iff hp.2
      obtain ⟨aa, vs, rfl, _⟩ := r2.tup_
      cases ry
      refine SeqAt.in_tuple_data a2 a1 (isPL_plain l (by simpa [D.isP] using b2.1)) (isP_plain _ b1.1) ?_ ⟨.bl _, H, I, rfl, ?_⟩
      · have := toP_depth dx.d
        have := Nat.min_le_right (PyData.depthAll (D.toPL l)) dx.d.toP.depth
        omega
      · rw [inL_any]
        exact q _ H (Same.refl H) (.plain (.bl _))
    · cases e
  | str b =>
    obtain ⟨dx, fx⟩ := dx
    cases dx with
    | str a =>
      cases plain_some (show plain (.bl (strIn a b)) = some dz from e)
      cases r1.str_; cases r2.str_
      exact op_in_str pins s σ H _ _ v u Q I rx ry ⟨a, b, rfl, rfl, q _ H (Same.refl H) (.plain (.bl _))⟩
    | _ => cases e
  | _ => cases e
theorem op_niDD (hK : p.K = X.K) (hu : X.A.units + 65 < cLine) : OpR X (compareOp .NotIn) (rD2 p (o2F .notin)) := by
  intro pins s σ H x y v u Q I rx ry h
  obtain ⟨Z, H0, Hs, dx, ⟨dy, fy⟩, dz, ⟨f1, r1, h1⟩, ⟨f2, r2, h2⟩, e0, hg, e, q⟩ := h
  cases dy with
  | lst l =>
    have e : (if (okP dx.d && okP (.lst l)) = true then plain (.bl (!inL dx.d l)) else none) = some dz := e
    split at e
    · rename_i hp
      simp only [Bool.and_eq_true] at hp
      cases plain_some e
      obtain ⟨as, a1⟩ := reads_of I hK r1 (okP_iff hp.1).1 rx
      obtain ⟨bs, a2⟩ := reads_of I hK r2 (okP_iff hp.2).1 ry
      have b1 := okP_iff hp.1
      have b2 := okP_iff hp.2
      obtain ⟨aa, vs, g1, rfl, _⟩ := r2.lst_
      cases ry
      refine SeqAt.notIn_list_data a2 a1 (isPL_plain l (by simpa [D.isP] using b2.1)) (isP_plain _ b1.1) ?_ ⟨.bl _, H, I, rfl, ?_⟩
      · have := toP_depth dx.d
        have := Nat.min_le_right (PyData.depthAll (D.toPL l)) dx.d.toP.depth
        omega
      · rw [inL_any]
        exact q _ H (Same.refl H) (.plain (.bl _))
    · cases e
  | tup l =>
    have e : (if (okP dx.d && okP (.tup l)) = true then plain (.bl (!inL dx.d l)) else none) = some dz := e
    split at e
    · rename_i hp
      simp only [Bool.and_eq_true] at hp
      cases plain_some e
      obtain ⟨as, a1⟩ := reads_of I hK r1 (okP_iff hp.1).1 rx
      obtain ⟨bs, a2⟩ := reads_of I hK r2 (okP_iff hp.2).1 ry
      have b1 := okP_iff hp.1
      have b2 := okP_iff hp.2
      obtain ⟨aa, vs, rfl, _⟩ := r2.tup_
      cases ry
      refine SeqAt.notIn_tuple_data a2 a1 (isPL_plain l (by simpa [D.isP] using b2.1)) (isP_plain _ b1.1) ?_ ⟨.bl _, H, I, rfl, ?_⟩
      · have := toP_depth dx.d
        have := Nat.min_le_right (PyData.depthAll (D.toPL l)) dx.d.toP.depth
        omega
      · rw [inL_any]
        exact q _ H (Same.refl H) (.plain (.bl _))
    · cases e
  | str b =>
    obtain ⟨dx, fx⟩ := dx
    cases dx with
    | str a =>
      cases plain_some (show plain (.bl (!strIn a b)) = some dz from e)
      cases r1.str_; cases r2.str_
      exact op_notin_str pins s σ H _ _ v u Q I rx ry ⟨a, b, rfl, rfl, q _ H (Same.refl H) (.plain (.bl _))⟩
    | _ => cases e
  | _ => cases e
theorem Rf.isNone {H : Hp} {v : V} {d : D} {fp : List Addr} (r : Rf p H v d fp) : decide (v = .non) = d.isNon := by
  cases r <;> simp [D.isNon]
theorem op_isDD : OpR X (compareOp .Is) (rD2 p (o2F .is_)) := by
  intro pins s σ H x y v u Q I rx ry h
  obtain ⟨Z, H0, Hs, ⟨dx, fx⟩, ⟨dy, fy⟩, dz, ⟨f1, r1, h1⟩, ⟨f2, r2, h2⟩, e0, hg, e, q⟩ := h
  cases dy with
  | non =>
    cases plain_some (show plain (.bl dx.isNon) = some dz from e)
    cases r2.non_
    refine op_isN pins s σ H _ _ v u Q I rx ry ⟨rfl, ?_⟩
    rw [r1.isNone]
    exact q _ H (Same.refl H) (.plain (.bl _))
  | _ => cases e
theorem op_notDD : OpR X (compareOp .IsNot) (rD2 p (o2F .isnot)) := by
  intro pins s σ H x y v u Q I rx ry h
  obtain ⟨Z, H0, Hs, ⟨dx, fx⟩, ⟨dy, fy⟩, dz, ⟨f1, r1, h1⟩, ⟨f2, r2, h2⟩, e0, hg, e, q⟩ := h
  cases dy with
  | non =>
    cases plain_some (show plain (.bl (!dx.isNon)) = some dz from e)
    cases r2.non_
    refine op_notN pins s σ H _ _ v u Q I rx ry ⟨rfl, ?_⟩
    rw [r1.isNone]
    exact q _ H (Same.refl H) (.plain (.bl _))
  | _ => cases e
end
end Wh

set_option maxHeartbeats 4000000
/-! Wh, part D: subscripts, slices, the built-in functions. -/
namespace Wh
open PySem PySem.Spec PyProof.Rows L2

section
variable {p : Pl} {H : Hp}
theorem RfL.atI {vs : List V} {ds : List D} {fp : List Addr} {k : Int} {d : D} (h : RfL p H vs ds fp) (e : atI ds k = some d) : ∃ v f1, atI vs k = some v ∧ Rf p H v d f1 ∧ f1.Sublist fp := by
  unfold L2.atI at e ⊢
  rw [h.length]
  cases q : ixN ds.length k with
  | none => rw [q] at e; cases e
  | some j =>
    rw [q] at e
    obtain ⟨v, f1, h1, h2, h3⟩ := h.get (i := j) e
    exact ⟨v, f1, h1, h2, h3⟩
theorem cutL_V (xs : List V) (lo hi : Option Int) : cutL xs lo hi = cutV xs lo hi := rfl
theorem RfL.cut {vs : List V} {ds : List D} {fp : List Addr} (h : RfL p H vs ds fp) (lo hi : Option Int) : ∃ f1, RfL p H (cutV vs lo hi) (cutL ds lo hi) f1 ∧ f1.Sublist fp := by
  obtain ⟨f1, h1, s1⟩ := h.drop (HT.sIx ds.length 0 lo)
  obtain ⟨f2, h2, s2⟩ := h1.take (HT.sIx ds.length ds.length hi - HT.sIx ds.length 0 lo)
  refine ⟨f2, ?_, s2.trans s1⟩
  unfold cutV cutL
  rw [h.length]
  exact h2
theorem Sub.mem {f1 f2 : List Addr} (s : f1.Sublist f2) : ∀ a ∈ f1, a ∈ f2 := fun a h => s.subset h
end
section
variable {X : Cx} {p : Pl}
theorem ix_okD (hK : p.K = X.K) (hu : X.A.units + 65 < cLine) : IxR X (rD2 p ixF) := by
  intro value slice pins s σ H x y v u Q I rx ry h hs
  obtain ⟨Z, H0, Hs, ⟨dx, fx⟩, ⟨dy, fy⟩, dz, ⟨f1, r1, h1⟩, ⟨f2, r2, h2⟩, e0, hg, e, q⟩ := h
  by_cases hd : ∃ l, dx = .dct l
  · obtain ⟨l, rfl⟩ := hd
    have e : (match keyOf dy with | some k => (match dGet l k with | some d => plain d | none => none) | none => none) = some dz := by cases dy <;> exact e
    obtain ⟨aa, kvs, rfl, s1, k1, rfl, l1, l2⟩ := r1.dct_
    cases c : keyOf dy with
    | none => rw [c] at e; cases e
    | some k =>
      rw [c] at e
      dsimp only at e
      cases c2 : dGet l k with
      | none => rw [c2] at e; cases e
      | some d =>
        rw [c2] at e
        cases plain_some e
        obtain ⟨w, g1, g2⟩ := DE.get ⟨l1, l2⟩ c2
        have ey := keyOf_ok r2 c
        subst ey
        exact ix_dct (by omega) value slice pins s σ H _ _ v u Q I rx ry ⟨aa, w, rfl, .inl ⟨kvs, k, .inl s1, rfl, g1.symm⟩, q _ H (Same.refl H) (.plain g2)⟩ hs
  have nd : ∀ l, dx ≠ .dct l := fun l z => hd ⟨l, z⟩
  cases dy with
  | int k =>
    cases r2.int_
    cases dx with
    | tup l =>
      have e : (match L2.atI l k with | some d => flagC (tf fx) d | none => none) = some dz := e
      cases c : L2.atI l k with
      | none => rw [c] at e; cases e
      | some d =>
        rw [c] at e
        obtain ⟨aa, vs, rfl, s1, l1⟩ := r1.tup_
        obtain ⟨w, g1, a1, a2, a3⟩ := l1.atI c
        rw [hK] at s1
        exact ix_tup value slice pins s σ H _ _ v u Q I rx ry ⟨aa, vs, k, w, rfl, rfl, s1, a1, q _ H (Same.refl H) (flagC_ok a2 (fun hb => (Hd.all h1 (tf_lent hb)).sub (Sub.mem a3)) e)⟩ hs
    | lst l =>
      have e : (match L2.atI l k with | some d => flagC fx d | none => none) = some dz := e
      cases c : L2.atI l k with
      | none => rw [c] at e; cases e
      | some d =>
        rw [c] at e
        obtain ⟨aa, vs, g, rfl, s1, k1, rfl, l1⟩ := r1.lst_
        obtain ⟨w, g1, a1, a2, a3⟩ := l1.atI c
        exact ix_list value slice pins s σ H _ _ v u Q I rx ry ⟨aa, vs, k, w, rfl, rfl, SqL.of s1, a1, q _ H (Same.refl H) (flagC_ok a2 (fun hb => (Hd.kids h1 hb).sub (Sub.mem a3)) e)⟩ hs
    | str t =>
      have e : (if t.length ≤ 100000 then match L2.atI t.cps.toList k with | some c => plain (.str ⟨#[c]⟩) | none => none else none) = some dz := e
      split at e
      · rename_i hl
        cases c : L2.atI t.cps.toList k with
        | none => rw [c] at e; cases e
        | some d =>
          rw [c] at e
          cases plain_some e
          cases r1.str_
          exact ix_str value slice pins s σ H _ _ v u Q I rx ry ⟨t, k, d, rfl, rfl, by rw [sizeLine_eq]; omega, c, q _ H (Same.refl H) (.plain (.str _))⟩ hs
      · cases e
    | dct l => exact absurd rfl (nd l)
    | _ => cases e
  | _ => cases dx <;> first | cases e | exact absurd rfl (nd _)
/-- a slice -/
def rSD (p : Pl) : V → Option Int → Option Int → Hp → VK → Prop := fun x lo hi H Q => ∃ (Z : Addr → Prop) (H0 Hs : Hp) (rx rz : RV), VR p Z H0 H0 rx x H ∧ Ext p.g Hs H ∧ (∃ o, H p.g = some o) ∧ slF rx lo hi = some rz ∧
  ∀ v H', Same H H' → VR p Z H0 Hs rz v H' → Q v H'
theorem sl_okD (hK : p.K = X.K) : SlR X (rSD p) := by
  intro pins s σ H x v vl vu lo hi sl Q I rx hs pl pu h
  obtain ⟨Z, H0, Hs, ⟨dx, fx⟩, dz, ⟨f1, r1, h1⟩, e0, hg, e, q⟩ := h
  cases dx with
  | tup l =>
    have e : flagT (tf fx) (cutL l lo hi) = some dz := e
    obtain ⟨aa, vs, rfl, s1, l1⟩ := r1.tup_
    obtain ⟨g1, a1, a3⟩ := l1.cut lo hi
    rw [hK] at s1
    refine cut_own pins s σ H _ v vl vu lo hi sl Q I rx hs pl pu ⟨aa, vs, rfl, s1, fun hw => ?_, fun hw q' hn ob hob => ?_⟩
    · have el : cutL l lo hi = l := by
        unfold cutL
        rw [← l1.length, hw.1, hw.2, l1.length]
        simp
      rw [el] at e
      exact q _ H (Same.refl H) (flagT_ok r1 (fun hb => Hd.all h1 (tf_lent hb)) e)
    · have sm := Same.new (o := .frz ob (.tup (cutV vs lo hi))) hn
      exact q _ _ sm (flagT_ok (.tup ⟨ob, upd_same, hob⟩ (nog hn hg) (a1.ext (.of_same sm))) (fun hb => (Hd.all h1 (tf_lent hb)).sub (Sub.mem a3)) e)
  | lst l =>
    have e : flagN fx (cutL l lo hi) (.lst (cutL l lo hi)) = some dz := e
    obtain ⟨aa, vs, g, rfl, s1, k1, rfl, l1⟩ := r1.lst_
    obtain ⟨g1, a1, a3⟩ := l1.cut lo hi
    refine sl_list pins s σ H _ v vl vu lo hi sl Q I rx hs pl pu ⟨aa, vs, rfl, SqL.of s1, fun q' hn => ?_⟩
    have sm := Same.new (o := .lst (cutV vs lo hi)) hn
    exact q _ _ sm (flagN_ok upd_same (nog hn hg) (e0.free hn) (a1.ext (.of_same sm)) (a1.fresh hn) (fun hb => (Hd.kids h1 hb).sub (Sub.mem a3)) e)
  | _ => cases e

/-! ### built-in functions -/
/-- evaluated one after another from Hs on -/
def VRL (p : Pl) (Z : Addr → Prop) (H0 : Hp) : Hp → List RV → List V → Hp → Prop
  | _, [], [], _ => True
  | Hs, r :: rs, v :: vs, H => ∃ H1, Ext p.g Hs H1 ∧ VR p Z H0 Hs r v H1 ∧ Ext p.g H1 H ∧ VRL p Z H0 H1 rs vs H
  | _, _, _, _ => False
theorem VRL.ext {p : Pl} {Z : Addr → Prop} {H0 H H' : Hp} (e : Ext p.g H H') : ∀ {Hs : Hp} {rs : List RV} {vs : List V}, VRL p Z H0 Hs rs vs H → VRL p Z H0 Hs rs vs H'
  | _, [], [], _ => trivial
  | _, _ :: _, _ :: _, ⟨H1, a, b, c, d⟩ => ⟨H1, a, b, c.trans e, VRL.ext e d⟩
  | _, [], _ :: _, h => h.elim
  | _, _ :: _, [], h => h.elim
/-- each by itself -/
def VRS (p : Pl) (Z : Addr → Prop) (H0 : Hp) : List RV → List V → Hp → Prop
  | [], [], _ => True
  | r :: rs, v :: vs, H => VR p Z H0 H0 r v H ∧ VRS p Z H0 rs vs H
  | _, _, _ => False
theorem VRL.each {p : Pl} {Z : Addr → Prop} {H0 : Hp} : ∀ {Hs H : Hp} {rs : List RV} {vs : List V}, Ext p.g H0 Hs → VRL p Z H0 Hs rs vs H → VRS p Z H0 rs vs H
  | _, _, [], [], _, _ => trivial
  | _, _, _ :: _, _ :: _, e, ⟨H1, a, b, c, d⟩ => ⟨(b.ext c).back e, VRL.each (e.trans a) d⟩
  | _, _, [], _ :: _, _, h => h.elim
  | _, _, _ :: _, [], _, h => h.elim
def rDN (p : Pl) (f : List RV → Option RV) : List V → Hp → VK → Prop := fun xs H Q => ∃ (Z : Addr → Prop) (H0 Hs : Hp) (rs : List RV) (rz : RV), VRS p Z H0 rs xs H ∧ Ext p.g Hs H ∧ (∃ o, H p.g = some o) ∧ f rs = some rz ∧
  ∀ v H', Same H H' → VR p Z H0 Hs rz v H' → Q v H'
/-- rules of one argument -/
theorem one_arg {op : Value} {f : List RV → Option RV} (h1 : ∀ rs rz, f rs = some rz → ∃ x, rs = [x])
    (h : ∀ (pins : List (Addr × Obj)) (s : Shared) (σ : L2.St) (H : Hp) (x : V) (u : Value) (Q : VK) (Z : Addr → Prop) (H0 Hs : Hp) (r rz : RV), Inv X pins σ H s → RelV x u → VR p Z H0 H0 r x H → Ext p.g Hs H → (∃ o, H p.g = some o) → f [r] = some rz →
      (∀ v H', Same H H' → VR p Z H0 Hs rz v H' → Q v H') → wpAny (model X.prog X.w) X.A (call op [u]) (EP X pins σ Q) X.xe s) : CallR X op (rDN p f) := by
  intro pins s σ H xs us Q I r hr
  obtain ⟨Z, H0, Hs, rs, rz, hv, e0, hg, e, q⟩ := hr
  obtain ⟨x, rfl⟩ := h1 _ _ e
  cases xs with
  | nil => exact hv.elim
  | cons v vs =>
    obtain ⟨hv1, hv2⟩ := hv
    cases vs with
    | nil =>
      cases r with
      | cons r1 r2 =>
        cases r2
        exact h pins s σ H v _ Q Z H0 Hs x rz I r1 hv1 e0 hg e q
    | cons _ _ => exact hv2.elim
def biV : Bi → Value
  | .len => .builtin "len" | .tuple => .type "tuple" | .list => .type "list" | .sorted => .builtin "sorted" | .repr => .builtin "repr" | .int => .type "int"
  | .sset => .builtin "sorted" | .abs => .builtin "abs" | .min => .builtin "min" | .max => .builtin "max" | .sum => .builtin "sum" | .any => .builtin "any" | .all => .builtin "all"
theorem bi_one {b : Bi} (hb : b = .len ∨ b = .tuple ∨ b = .list ∨ b = .repr ∨ b = .abs ∨ b = .int) (rs : List RV) (rz : RV) (e : biF b rs = some rz) : ∃ x, rs = [x] := by
  rcases hb with rfl | rfl | rfl | rfl | rfl | rfl <;> (cases rs with
    | nil => cases e
    | cons x r => cases r with
      | nil => exact ⟨x, rfl⟩
      | cons _ _ => cases e)
theorem bi_len (hK : p.K = X.K) : CallR X (.builtin "len") (rDN p (biF .len)) := by
  refine one_arg (bi_one (.inl rfl)) fun pins s σ H x u Q Z H0 Hs r rz I rx hv e0 hg e q => ?_
  obtain ⟨dx, fx⟩ := r
  obtain ⟨f1, r1, h1⟩ := hv
  cases dx with
  | tup l =>
    cases plain_some (show plain (.int l.length) = some rz from e)
    obtain ⟨aa, vs, rfl, s1, l1⟩ := r1.tup_
    rw [hK] at s1
    refine call_len_seq pins s σ H [.ref aa] [u] Q I (.cons rx .nil) ⟨aa, vs, rfl, .inr s1, ?_⟩
    rw [l1.length]
    exact q _ H (Same.refl H) (.plain (.int _))
  | lst l =>
    cases plain_some (show plain (.int l.length) = some rz from e)
    obtain ⟨aa, vs, g, rfl, s1, k1, rfl, l1⟩ := r1.lst_
    refine call_len_seq pins s σ H [.ref aa] [u] Q I (.cons rx .nil) ⟨aa, vs, rfl, .inl (SqL.of s1), ?_⟩
    rw [l1.length]
    exact q _ H (Same.refl H) (.plain (.int _))
  | str t =>
    have e : (if t.length ≤ 100000 then plain (.int t.length) else none) = some rz := e
    split at e
    · rename_i hl
      cases plain_some e
      cases r1.str_
      exact call_len_str pins s σ H [.str t] [u] Q I (.cons rx .nil) ⟨t, rfl, by rw [sizeLine_eq]; omega, q _ H (Same.refl H) (.plain (.int _))⟩
    · cases e
  | _ => cases e
theorem bi_tuple (hK : p.K = X.K) : CallR X (.type "tuple") (rDN p (biF .tuple)) := by
  refine one_arg (bi_one (.inr (.inl rfl))) fun pins s σ H x u Q Z H0 Hs r rz I rx hv e0 hg e q => ?_
  obtain ⟨dx, fx⟩ := r
  obtain ⟨f1, r1, h1⟩ := hv
  cases dx with
  | tup l =>
    have e : (if D.flatL l then plain (.tup l) else none) = some rz := e
    split at e
    · rename_i hl
      cases plain_some e
      have ez := r1.flat (by simpa [D.flat] using hl)
      subst ez
      obtain ⟨aa, vs, rfl, s1, l1⟩ := r1.tup_
      rw [hK] at s1
      exact tuple_own pins s σ H [.ref aa] [u] Q I (.cons rx .nil) ⟨aa, vs, rfl, .inr ⟨s1, q _ H (Same.refl H) (.plain r1)⟩⟩
    · cases e
  | lst l =>
    have e : flagT fx l = some rz := e
    obtain ⟨aa, vs, g, rfl, s1, k1, rfl, l1⟩ := r1.lst_
    refine tuple_own pins s σ H [.ref aa] [u] Q I (.cons rx .nil) ⟨aa, vs, rfl, .inl ⟨SqL.of s1, fun q' hn ob hob => ?_⟩⟩
    have sm := Same.new (o := .frz ob (.tup vs)) hn
    exact q _ _ sm (flagT_ok (.tup ⟨ob, upd_same, hob⟩ (nog hn hg) (l1.ext (.of_same sm))) (fun hb => Hd.kids h1 hb) e)
  | _ => cases e
theorem bi_list (hK : p.K = X.K) : CallR X (.type "list") (rDN p (biF .list)) := by
  refine one_arg (bi_one (.inr (.inr (.inl rfl)))) fun pins s σ H x u Q Z H0 Hs r rz I rx hv e0 hg e q => ?_
  obtain ⟨dx, fx⟩ := r
  obtain ⟨f1, r1, h1⟩ := hv
  cases dx with
  | tup l =>
    have e : flagN (tf fx) l (.lst l) = some rz := e
    obtain ⟨aa, vs, rfl, s1, l1⟩ := r1.tup_
    rw [hK] at s1
    refine call_list_of pins s σ H [.ref aa] [u] Q I (.cons rx .nil) ⟨aa, vs, rfl, .inr s1, fun q' hn => ?_⟩
    have sm := Same.new (o := .lst vs) hn
    exact q _ _ sm (flagN_ok upd_same (nog hn hg) (e0.free hn) (l1.ext (.of_same sm)) (l1.fresh hn) (fun hb => Hd.all h1 (tf_lent hb)) e)
  | lst l =>
    have e : flagN fx l (.lst l) = some rz := e
    obtain ⟨aa, vs, g, rfl, s1, k1, rfl, l1⟩ := r1.lst_
    refine call_list_of pins s σ H [.ref aa] [u] Q I (.cons rx .nil) ⟨aa, vs, rfl, .inl (SqL.of s1), fun q' hn => ?_⟩
    have sm := Same.new (o := .lst vs) hn
    exact q _ _ sm (flagN_ok upd_same (nog hn hg) (e0.free hn) (l1.ext (.of_same sm)) (l1.fresh hn) (fun hb => Hd.kids h1 hb) e)
  | _ => cases e
theorem bi_abs : CallR X (.builtin "abs") (rDN p (biF .abs)) := by
  refine one_arg (bi_one (.inr (.inr (.inr (.inr (.inl rfl)))))) fun pins s σ H x u Q Z H0 Hs r rz I rx hv e0 hg e q => ?_
  obtain ⟨dx, fx⟩ := r
  obtain ⟨f1, r1, h1⟩ := hv
  cases dx with
  | int i =>
    cases plain_some (show plain (.int (if i < 0 then -i else i)) = some rz from e)
    cases r1.int_
    exact call_abs pins s σ H [.int i] [u] Q I (.cons rx .nil) ⟨i, rfl, q _ H (Same.refl H) (.plain (.int _))⟩
  | _ => cases e
theorem bi_int : CallR X (.type "int") (rDN p (biF .int)) := by
  refine one_arg (bi_one (.inr (.inr (.inr (.inr (.inr rfl)))))) fun pins s σ H x u Q Z H0 Hs r rz I rx hv e0 hg e q => ?_
  obtain ⟨dx, fx⟩ := r
  obtain ⟨f1, r1, h1⟩ := hv
  cases dx with
  | int i =>
    cases plain_some (show plain (.int i) = some rz from e)
    cases r1.int_
    exact call_int1 pins s σ H [.int i] [u] Q I (.cons rx .nil) (.inl ⟨i, rfl, q _ H (Same.refl H) (.plain (.int _))⟩)
  | _ => cases e
mutual
theorem isP_noDict : ∀ d : D, d.toP.hasDict = false
  | .non => rfl
  | .bl _ => rfl
  | .int _ => rfl
  | .str _ => rfl
  | .tup l => by simp only [D.toP, PyData.hasDict]; exact isPL_noDict l
  | .lst l => by simp only [D.toP, PyData.hasDict]; exact isPL_noDict l
  | .dct _ => rfl
  | .set _ => rfl
  | .fn _ => rfl
  | .bag => rfl
  | .pr _ => rfl
theorem isPL_noDict : ∀ l : List D, PyData.hasDictAll (D.toPL l) = false
  | [] => rfl
  | d :: r => by simp only [D.toPL, PyData.hasDictAll, isP_noDict d, isPL_noDict r, Bool.or_self]
end
theorem bi_repr (hK : p.K = X.K) (hG : X.A.guards = some []) (hu : X.A.units + 64 < cLine) : CallR X (.builtin "repr") (rDN p (biF .repr)) := by
  refine one_arg (bi_one (.inr (.inr (.inr (.inl rfl))))) fun pins s σ H x u Q Z H0 Hs r rz I rx hv e0 hg e q => ?_
  obtain ⟨dx, fx⟩ := r
  obtain ⟨f1, r1, h1⟩ := hv
  have e : (if okP dx ∧ dx.toP.showable = true ∧ dx.toP.shown.length ≤ 1000000 then plain (.str dx.toP.shown) else none) = some rz := e
  split at e
  · rename_i hc
    obtain ⟨c1, c2, c3⟩ := hc
    cases plain_some e
    have fin := q (.str dx.toP.shown) H (Same.refl H) (.plain (.str _))
    have hz : dx.toP.shown.length ≤ sizeLine := by rw [sizeLine_eq]; omega
    have big : ∀ a, u = .ref a → wpAny (model X.prog X.w) X.A (call (.builtin "repr") [u]) (EP X pins σ Q) X.xe s := fun a ea => by
      obtain ⟨as, rd⟩ := reads_of I hK r1 (okP_iff c1).1 rx
      subst ea
      refine repr_of_reads' rd c2 (fun z => by rw [isP_noDict] at z; cases z) hG ?_ (fun _ _ z => z) (fun h' t tk kk => ?_) hz
      · have a1 := toP_depth dx
        have a2 := (okP_iff c1).2
        show X.A.units + (dx.toP.depth + 1) < cLine
        omega
      · exact ⟨.str dx.toP.shown, H, I.kept (h' := h') (t' := tk) kk, ⟨_, rfl⟩, fin⟩
    cases dx with
    | non => cases r1.non_; cases rx; exact P.repr_of_none ⟨.str _, H, I.tok _, ⟨_, rfl⟩, fin⟩
    | bl b => cases r1.bl_; cases rx; exact P.repr_of_bool ⟨.str _, H, I.tok _, ⟨_, rfl⟩, fin⟩
    | int i =>
      cases r1.int_
      obtain ⟨t, rfl⟩ := rx
      exact P.repr_of_int (of_decide_eq_true c2) ⟨.str _, H, I.tok _, ⟨_, rfl⟩, fin⟩
    | str w =>
      cases r1.str_
      obtain ⟨t, rfl⟩ := rx
      exact P.repr_of_str ⟨.str _, H, I.tok _, ⟨_, rfl⟩, fin⟩ hz
    | tup l =>
      obtain ⟨aa, vs, rfl, _⟩ := r1.tup_
      exact big aa rx
    | lst l =>
      obtain ⟨aa, vs, g, rfl, _⟩ := r1.lst_
      exact big aa rx
    | _ => simp [okP, D.isP] at c1
  · cases e
theorem intsOf_eq : ∀ {l : List D} {ns : List Int}, intsOf l = some ns → l = ns.map D.int
  | [], ns, h => by cases h; rfl
  | d :: r, ns, h => by
    cases d with
    | int i =>
      simp only [intsOf] at h
      split at h
      · rename_i l q
        cases h
        rw [intsOf_eq q]
        rfl
      · cases h
    | _ => cases h
theorem boolsOf_eq : ∀ {l : List D} {ns : List Bool}, boolsOf l = some ns → l = ns.map D.bl
  | [], ns, h => by cases h; rfl
  | d :: r, ns, h => by
    cases d with
    | bl i =>
      simp only [boolsOf] at h
      split at h
      · rename_i l q
        cases h
        rw [boolsOf_eq q]
        rfl
      · cases h
    | _ => cases h
theorem RfL.ints {H : Hp} : ∀ {vs : List V} {ns : List Int} {fp : List Addr}, RfL p H vs (ns.map D.int) fp → vs = ns.map V.int
  | _, [], _, .nil => rfl
  | _, n :: ns, _, .cons r t => by rw [r.int_, RfL.ints t]; rfl
theorem RfL.bools {H : Hp} : ∀ {vs : List V} {ns : List Bool} {fp : List Addr}, RfL p H vs (ns.map D.bl) fp → vs = ns.map V.bl
  | _, [], _, .nil => rfl
  | _, n :: ns, _, .cons r t => by rw [r.bl_, RfL.bools t]; rfl
theorem bi_1 {b : Bi} (hb : b = .sorted ∨ b = .sum ∨ b = .max ∨ b = .min ∨ b = .any ∨ b = .all) (rs : List RV) (rz : RV) (e : biF b rs = some rz) : ∃ x, rs = [x] := by
  rcases hb with rfl | rfl | rfl | rfl | rfl | rfl <;> (cases rs with
    | nil => cases e
    | cons x r => cases r with
      | nil => exact ⟨x, rfl⟩
      | cons _ _ => cases e)
theorem bi_sum (hK : p.K = X.K) (hc : X.calm = true) : CallR X (.builtin "sum") (rDN p (biF .sum)) := by
  refine one_arg (bi_1 (.inr (.inl rfl))) fun pins s σ H x u Q Z H0 Hs r rz I rx hv e0 hg e q => ?_
  obtain ⟨dx, fx⟩ := r
  obtain ⟨f1, r1, h1⟩ := hv
  cases dx with
  | lst l =>
    obtain ⟨aa, vs, g, rfl, s1, k1, rfl, l1⟩ := r1.lst_
    simp only [biF] at e
    split at e
    · rename_i ns qn
      cases plain_some e
      rw [intsOf_eq qn] at l1
      rw [l1.ints] at s1
      exact cr_sum hc pins s σ H [.ref aa] [u] Q I (.cons rx .nil) ⟨aa, ns, rfl, SqL.of s1, q _ H (Same.refl H) (.plain (.int _))⟩
    · cases e
  | _ => cases e
theorem fold_max : ∀ (r : List Int) (n m : Int), r.foldl max n = m → (m ∈ n :: r) ∧ ∀ y ∈ n :: r, y ≤ m
  | [], n, m, h => by cases h; exact ⟨List.mem_cons_self, fun y hy => by rw [List.mem_singleton.mp hy]; exact Int.le_refl _⟩
  | a :: r, n, m, h => by
    obtain ⟨h1, h2⟩ := fold_max r (max n a) m h
    have hn : n ≤ m := Int.le_trans (Int.le_max_left _ _) (h2 _ List.mem_cons_self)
    have ha : a ≤ m := Int.le_trans (Int.le_max_right _ _) (h2 _ List.mem_cons_self)
    refine ⟨?_, fun y hy => ?_⟩
    · rcases List.mem_cons.mp h1 with z | z
      · rcases Int.le_total n a with w | w
        · rw [Int.max_eq_right w] at z
          rw [z]; exact List.mem_cons_of_mem _ List.mem_cons_self
        · rw [Int.max_eq_left w] at z
          rw [z]; exact List.mem_cons_self
      · exact List.mem_cons_of_mem _ (List.mem_cons_of_mem _ z)
    · rcases List.mem_cons.mp hy with z | z
      · rw [z]; exact hn
      · rcases List.mem_cons.mp z with z | z
        · rw [z]; exact ha
        · exact h2 y (List.mem_cons_of_mem _ z)
theorem fold_min : ∀ (r : List Int) (n m : Int), r.foldl min n = m → (m ∈ n :: r) ∧ ∀ y ∈ n :: r, m ≤ y
  | [], n, m, h => by cases h; exact ⟨List.mem_cons_self, fun y hy => by rw [List.mem_singleton.mp hy]; exact Int.le_refl _⟩
  | a :: r, n, m, h => by
    obtain ⟨h1, h2⟩ := fold_min r (min n a) m h
    have hn : m ≤ n := Int.le_trans (h2 _ List.mem_cons_self) (Int.min_le_left _ _)
    have ha : m ≤ a := Int.le_trans (h2 _ List.mem_cons_self) (Int.min_le_right _ _)
    refine ⟨?_, fun y hy => ?_⟩
    · rcases List.mem_cons.mp h1 with z | z
      · rcases Int.le_total n a with w | w
        · rw [Int.min_eq_left w] at z
          rw [z]; exact List.mem_cons_self
        · rw [Int.min_eq_right w] at z
          rw [z]; exact List.mem_cons_of_mem _ List.mem_cons_self
      · exact List.mem_cons_of_mem _ (List.mem_cons_of_mem _ z)
    · rcases List.mem_cons.mp hy with z | z
      · rw [z]; exact hn
      · rcases List.mem_cons.mp z with z | z
        · rw [z]; exact ha
        · exact h2 y (List.mem_cons_of_mem _ z)
theorem maxL_ok {ns : List Int} {m : Int} (h : maxL ns = some m) : 0 < ns.length ∧ ∀ m', m' ∈ ns → (∀ y, y ∈ ns → y ≤ m') → m' = m := by
  cases ns with
  | nil => cases h
  | cons n r =>
    obtain ⟨h1, h2⟩ := fold_max r n m (Option.some.inj h)
    exact ⟨Nat.succ_pos _, fun m' h3 h4 => Int.le_antisymm (h2 m' h3) (h4 m h1)⟩
theorem minL_ok {ns : List Int} {m : Int} (h : minL ns = some m) : 0 < ns.length ∧ ∀ m', m' ∈ ns → (∀ y, y ∈ ns → m' ≤ y) → m' = m := by
  cases ns with
  | nil => cases h
  | cons n r =>
    obtain ⟨h1, h2⟩ := fold_min r n m (Option.some.inj h)
    exact ⟨Nat.succ_pos _, fun m' h3 h4 => Int.le_antisymm (h4 m h1) (h2 m' h3)⟩
theorem bi_max (hK : p.K = X.K) (hc : X.calm = true) : CallR X (.builtin "max") (rDN p (biF .max)) := by
  refine one_arg (bi_1 (.inr (.inr (.inl rfl)))) fun pins s σ H x u Q Z H0 Hs r rz I rx hv e0 hg e q => ?_
  obtain ⟨dx, fx⟩ := r
  obtain ⟨f1, r1, h1⟩ := hv
  cases dx with
  | lst l =>
    obtain ⟨aa, vs, g, rfl, s1, k1, rfl, l1⟩ := r1.lst_
    simp only [biF] at e
    split at e
    · rename_i ns qn
      split at e
      · rename_i m qm
        cases plain_some e
        rw [intsOf_eq qn] at l1
        rw [l1.ints] at s1
        obtain ⟨g1, g2⟩ := maxL_ok qm
        exact cr_max hc pins s σ H [.ref aa] [u] Q I (.cons rx .nil) ⟨aa, ns, rfl, SqL.of s1, g1, fun m' h3 h4 => by rw [g2 m' h3 h4]; exact q _ H (Same.refl H) (.plain (.int _))⟩
      · cases e
    · cases e
  | _ => cases e
theorem bi_min (hK : p.K = X.K) (hc : X.calm = true) : CallR X (.builtin "min") (rDN p (biF .min)) := by
  refine one_arg (bi_1 (.inr (.inr (.inr (.inl rfl))))) fun pins s σ H x u Q Z H0 Hs r rz I rx hv e0 hg e q => ?_
  obtain ⟨dx, fx⟩ := r
  obtain ⟨f1, r1, h1⟩ := hv
  cases dx with
  | lst l =>
    obtain ⟨aa, vs, g, rfl, s1, k1, rfl, l1⟩ := r1.lst_
    simp only [biF] at e
    split at e
    · rename_i ns qn
      split at e
      · rename_i m qm
        cases plain_some e
        rw [intsOf_eq qn] at l1
        rw [l1.ints] at s1
        obtain ⟨g1, g2⟩ := minL_ok qm
        exact cr_min hc pins s σ H [.ref aa] [u] Q I (.cons rx .nil) ⟨aa, ns, rfl, SqL.of s1, g1, fun m' h3 h4 => by rw [g2 m' h3 h4]; exact q _ H (Same.refl H) (.plain (.int _))⟩
      · cases e
    · cases e
  | _ => cases e
theorem bi_any (hK : p.K = X.K) (hc : X.calm = true) : CallR X (.builtin "any") (rDN p (biF .any)) := by
  refine one_arg (bi_1 (.inr (.inr (.inr (.inr (.inl rfl)))))) fun pins s σ H x u Q Z H0 Hs r rz I rx hv e0 hg e q => ?_
  obtain ⟨dx, fx⟩ := r
  obtain ⟨f1, r1, h1⟩ := hv
  cases dx with
  | lst l =>
    obtain ⟨aa, vs, g, rfl, s1, k1, rfl, l1⟩ := r1.lst_
    simp only [biF] at e
    split at e
    · rename_i ns qn
      cases plain_some e
      rw [boolsOf_eq qn] at l1
      rw [l1.bools] at s1
      exact cr_any hc pins s σ H [.ref aa] [u] Q I (.cons rx .nil) ⟨aa, ns, rfl, SqL.of s1, q _ H (Same.refl H) (.plain (.bl _))⟩
    · cases e
  | _ => cases e
theorem bi_all (hK : p.K = X.K) (hc : X.calm = true) : CallR X (.builtin "all") (rDN p (biF .all)) := by
  refine one_arg (bi_1 (.inr (.inr (.inr (.inr (.inr rfl)))))) fun pins s σ H x u Q Z H0 Hs r rz I rx hv e0 hg e q => ?_
  obtain ⟨dx, fx⟩ := r
  obtain ⟨f1, r1, h1⟩ := hv
  cases dx with
  | lst l =>
    obtain ⟨aa, vs, g, rfl, s1, k1, rfl, l1⟩ := r1.lst_
    simp only [biF] at e
    split at e
    · rename_i ns qn
      cases plain_some e
      rw [boolsOf_eq qn] at l1
      rw [l1.bools] at s1
      exact cr_all hc pins s σ H [.ref aa] [u] Q I (.cons rx .nil) ⟨aa, ns, rfl, SqL.of s1, q _ H (Same.refl H) (.plain (.bl _))⟩
    · cases e
  | _ => cases e
/-! ### sorted -/
theorem each_rows {H : Hp} {R : Value → D → Prop} (hR : ∀ x v d, RelV x v → Rf p H x d [] → R v d) : ∀ {vs : List V} {us : List Value} {ds : List D} {fp : List Addr}, RfL p H vs ds fp → fp = [] → Vals vs us → PySem.W.EachIs R us ds
  | _, _, _, _, .nil, _, .nil => .nil
  | _, _, _, _, .cons (f1 := f1) (f2 := f2) r t, e, .cons a b => by
    obtain ⟨e1, e2⟩ := List.append_eq_nil_iff.mp e
    subst e1 e2
    exact .cons (hR _ _ _ a r) (each_rows hR t rfl b)
theorem rows_each {H : Hp} : ∀ {us : List Value} {ds : List D}, PySem.W.EachIs (fun v d => ∃ x, RelV x v ∧ Rf p H x d []) us ds → ∃ vs, Vals vs us ∧ RfL p H vs ds []
  | _, _, .nil => ⟨[], .nil, .nil⟩
  | _, _, .cons ⟨x, a, b⟩ t => by
    obtain ⟨vs, h1, h2⟩ := rows_each t
    exact ⟨x :: vs, .cons a h1, .cons (f1 := []) (f2 := []) b h2⟩
theorem mem_isPL : ∀ {l : List D}, D.isPL l = true → ∀ d ∈ l, d.isP = true
  | [], _, d, h => by cases h
  | a :: r, h, d, hd => by
    simp only [D.isPL, Bool.and_eq_true] at h
    rcases List.mem_cons.mp hd with rfl | z
    · exact h.1
    · exact mem_isPL h.2 d z
theorem flatL_mem {l : List D} : D.flatL l = true ↔ ∀ d ∈ l, d.flat = true := by
  induction l with
  | nil => exact ⟨fun _ d h => by (cases h), fun _ => rfl⟩
  | cons a r ih =>
    simp only [D.flatL, Bool.and_eq_true, ih, List.mem_cons]
    exact ⟨fun ⟨h1, h2⟩ d hd => hd.elim (fun z => z ▸ h1) (h2 d), fun h => ⟨h a (.inl rfl), fun d hd => h d (.inr hd)⟩⟩
theorem each_mem {α β : Type} {R R' : α → β → Prop} : ∀ {us : List α} {ds : List β}, PySem.W.EachIs R us ds → (∀ d ∈ ds, ∀ v, R v d → R' v d) → PySem.W.EachIs R' us ds
  | _, _, .nil, _ => .nil
  | _, _, .cons a t, h => .cons (h _ List.mem_cons_self _ a) (each_mem t fun d hd => h d (List.mem_cons_of_mem _ hd))
theorem bi_sorted (hK : p.K = X.K) (hu : X.A.units + 65 < cLine) : CallR X (.builtin "sorted") (rDN p (biF .sorted)) := by
  refine one_arg (bi_1 (.inl rfl)) fun pins s σ H x u Q Z H0 Hs r rz I rx hv e0 hg e q => ?_
  obtain ⟨dx, fx⟩ := r
  obtain ⟨f1, r1, h1⟩ := hv
  cases dx with
  | lst l =>
    obtain ⟨aa, vs, g, rfl, s1, k1, rfl, l1⟩ := r1.lst_
    have e : (if srtOk l then plain (.lst (l.mergeSort leD)) else none) = some rz := e
    split at e
    · rename_i hs
      cases plain_some e
      unfold srtOk at hs
      simp only [Bool.and_eq_true, Bool.or_eq_true, List.all_eq_true, decide_eq_true_eq] at hs
      obtain ⟨⟨⟨⟨⟨g1, g2⟩, g3⟩, g4⟩, g5⟩, g6⟩ := hs
      obtain ⟨its, rv, pl, hz⟩ := I.list (SqL.of s1)
      cases rx
      have gz : g = [] := l1.flat g4
      have each := each_rows (R := fun v d => ∃ x, RelV x v ∧ Rf p H x d []) (fun x v d a b => ⟨x, a, b⟩) l1 gz rv
      have hP := mem_isPL g5
      have hin : ∀ d ∈ l, ∀ v, (∃ x, RelV x v ∧ Rf p H x d []) → ∃ as, Reads s.heap v d.toP as := fun d hd v ⟨x, a, b⟩ => by
        have := b.dp (hP d hd)
        rw [hK] at this
        exact Dp.reads I _ _ _ this a
      have er : PySem.W.EachIs (fun v d => ∃ as, Reads s.heap v (D.toP d) as) its l := each_mem each hin
      have hal : PySem.W.AllAlike (l.map D.toP) := fun d hd d' hd' => by
        obtain ⟨b, hb, rfl⟩ := List.mem_map.mp hd
        obtain ⟨b', hb', rfl⟩ := List.mem_map.mp hd'
        exact g1 b hb b' hb'
      have hk : PySem.W.Sortable (l.map D.toP) := by
        rcases g2 with g2 | g2
        · refine .inl fun d hd => ?_
          obtain ⟨b, hb, rfl⟩ := List.mem_map.mp hd
          have := g2 b hb
          cases b with
          | tup m => cases m with
            | nil => cases this
            | cons y r => exact ⟨y.toP, D.toPL r, rfl⟩
          | _ => cases this
        · refine .inr fun d hd => ?_
          obtain ⟨b, hb, rfl⟩ := List.mem_map.mp hd
          have w1 := g2 b hb
          have w2 := hP b hb
          cases b with
          | tup m => cases w1
          | non => cases w1
          | bl _ => exact ⟨fun z => (by cases z), fun _ z => (by cases z)⟩
          | int _ => exact ⟨fun z => (by cases z), fun _ z => (by cases z)⟩
          | str _ => exact ⟨fun z => (by cases z), fun _ z => (by cases z)⟩
          | lst _ => exact ⟨fun z => (by cases z), fun _ z => (by cases z)⟩
          | _ => simp [D.isP] at w2
      refine PySem.W.sorted_data (enc := D.toP) pl.isList each er hal hk (by rw [sizeLine_eq]; omega) (fun b hb => by
        have h1 := toP_depth b
        have h2 := g3 b hb
        omega) fun out ho hout => ?_
      obtain ⟨xs, hx1, hx2⟩ := rows_each hout
      obtain ⟨ep, he'⟩ := PyProof.Rows.sortedAll_at s.heap its (List.toArray out)
      have hn : H (s.heap.objs.size + 1) = none := I.hok.fresh (Nat.le_succ _)
      have sm := Same.new (o := .lst xs) hn
      refine ⟨.ref _, upd H (s.heap.objs.size + 1) (.lst xs), I.laid (t' := s.toks) (fun _ _ => PyProof.Rows.sortedAll_old) (Nat.le_succ _) ⟨by rw [hx1.length, ho, sizeLine_eq]; omega, out, ep, hx1, he'⟩, rfl, q _ _ sm ⟨[s.heap.objs.size + 1], ?_, ?_⟩⟩
      · exact .lst upd_same (nog hn hg) (hx2.ext (.of_same sm))
      · exact ⟨by simp, fun a ha => by rw [List.mem_singleton.mp ha]; exact e0.free hn⟩
    · cases e
  | _ => cases e
end
end Wh

set_option maxHeartbeats 4000000
/-! Wh, part E: what an expression of the program gives is what ev says. -/
namespace Wh
open PySem PySem.Spec PyProof.Rows L2

/-! ### what holds where an expression stands -/
structure Pre (p : Pl) (δ : Env) (B : Bag) (Z : Addr → Prop) (H0 : Hp) (σ : L2.St) (H : Hp) : Prop where
  env : EnvV p Z δ σ H0
  ext : Ext p.g H0 H
  amb : Amb p B H
/-- an exception's record (of a class without fields) -/
def ExR (p : Pl) (x : Exn) (cls : Value) (dx : Option Addr) (H : Hp) : Prop := cls = .ref (p.C x.c) ∧ x.args = [] ∧ dx = none
def PostG {α : Type} (p : Pl) (W : WX) (σ : L2.St) (H : Hp) (r : Res α) (k : α → Bag → Hp → Prop) : Prop := match r with
  | .ok a B' => ∀ H', Ext p.g H H' → Amb p B' H' → k a B' H'
  | .exc x B' => ∀ cls dx H', Ext p.g H H' → Amb p B' H' → ExR p x cls dx H' → W cls dx σ H'
  | .st => False
section
variable {p : Pl} {W : WX} {σ : L2.St} {H H' : Hp} {α β : Type}
theorem PostG.ext {r : Res α} {k : α → Bag → Hp → Prop} (h : PostG p W σ H r k) (e : Ext p.g H H') : PostG p W σ H' r k := by
  cases r with
  | ok a B => exact fun H2 e2 a2 => h H2 (e.trans e2) a2
  | exc x B => exact fun c d H2 e2 a2 q => h c d H2 (e.trans e2) a2 q
  | st => exact h
theorem PostG.mono {r : Res α} {k k' : α → Bag → Hp → Prop} (h : PostG p W σ H r k) (m : ∀ a B' H', Ext p.g H H' → Amb p B' H' → k a B' H' → k' a B' H') : PostG p W σ H r k' := by
  cases r with
  | ok a B => exact fun H2 e2 a2 => m a B H2 e2 a2 (h H2 e2 a2)
  | exc x B => exact h
  | st => exact h
theorem PostG.bind {r : Res α} {f : α → Bag → Res β} {k : β → Bag → Hp → Prop} (h : PostG p W σ H (r.bind f) k) : PostG p W σ H r fun a B' H' => PostG p W σ H' (f a B') k := by
  cases r with
  | ok a B => exact fun H2 e2 a2 => PostG.ext (r := f a B) h e2
  | exc x B => exact h
  | st => exact h
theorem PostG.opt {o : Option α} {B : Bag} {k : α → Bag → Hp → Prop} (h : PostG p W σ H (Wh.opt o B) k) : ∃ a, o = some a ∧ ∀ H', Ext p.g H H' → Amb p B H' → k a B H' := by
  cases o with
  | none => exact h.elim
  | some a => exact ⟨a, rfl, h⟩
end
section
variable (p : Pl) (C : Cs) (W : WX)
def rdX (f : Env → Bag → Res RV) : TE := fun σ H Q => ∃ δ B Z H0, Pre p δ B Z H0 σ H ∧ PostG p W σ H (f δ B) fun r _ H' => ∀ v, VR p Z H0 H r v H' → Q v H'
def rdY (f : Env → Bag → Res RV) : TT := fun σ H Q => ∃ δ B Z H0, Pre p δ B Z H0 σ H ∧ PostG p W σ H (f δ B) fun r _ H' => ∃ b, r.d = .bl b ∧ Q b H'
abbrev rdE (e : E) : TE := rdX p W (ev C e false)
abbrev rdT (e : E) : TT := rdY p W (ev C e true)
def rdL (l : EL) : TA := fun σ H Q => ∃ δ B Z H0, Pre p δ B Z H0 σ H ∧ PostG p W σ H (evL C l δ B) fun rs _ H' => ∀ vs, VRL p Z H0 H rs vs H' → Q vs H'
end
theorem _root_.L2.PE.weak {X : Cx} {e : Expr} {t t' : TE} (h : PE X e t) (w : ∀ σ H Q, t' σ H Q → t σ H Q) : PE X e t' := ⟨fun pins s σ H Q I q => h.run pins s σ H Q I (w σ H Q q)⟩
theorem _root_.L2.PT.weak {X : Cx} {e : Expr} {t t' : TT} (h : PT X e t) (w : ∀ σ H Q, t' σ H Q → t σ H Q) : PT X e t' := ⟨fun pins s σ H Q I q => h.run pins s σ H Q I (w σ H Q q)⟩
theorem _root_.L2.PA.weak {X : Cx} {e : List Expr} {t t' : TA} (h : PA X e t) (w : ∀ σ H Q, t' σ H Q → t σ H Q) : PA X e t' := ⟨fun pos pins s σ H Q I q => h.run pos pins s σ H Q I (w σ H Q q)⟩
theorem Pre.at {p : Pl} {δ : Env} {B B' : Bag} {Z : Addr → Prop} {H0 : Hp} {σ : L2.St} {H H' : Hp} (h : Pre p δ B Z H0 σ H) (e : Ext p.g H H') (a : Amb p B' H') : Pre p δ B' Z H0 σ H' := ⟨h.env, h.ext.trans e, a⟩

/-! ### defs -/
/-- a def's promise: its parameters' lists are not touched -/
def spN (p : Pl) (C : Cs) (f : Nat) : Sp := fun vs H Q E => ∃ ds fps B, RfL p H vs ds fps ∧ Amb p B H ∧ match C f ds B with
  | .ok r B' => ∀ v H', Ext p.g H H' → Amb p B' H' → r.f.lent = false → VR p (fun a => a ∈ fps) H H r v H' → Q v H'
  | .exc x B' => ∀ cls dx H', Ext p.g H H' → Amb p B' H' → ExR p x cls dx H' → E cls dx H'
  | .st => False
def FnG (P : Program) (w : World) (mg : Str → Option Value) (base : Heap) (p : Pl) (C : Cs) (k f : Nat) : Prop :=
  PySem.W.keepIn p.K (.ref (p.F f)) = true ∧ ∃ (fd : FuncData) (ps : List Str), Binds p.K fd ps [] ∧ (∀ ds B, ds.length ≠ ps.length → C f ds B = .st) ∧
    ∀ (A : Around) (outer : List PySem.Env) (s : Shared) (H : Hp) (args : Args) (us : List Value) (vs : List V) (Q : VK) (E : XK), (p.hv f = true → A.guards = some []) → Room (3 * k) A → Env0 P w p.K mg base A outer s H → BindsTo s fd args (ps.zip us) → Vals vs us →
      spN p C f vs H Q E → codeAny (model P w) A (.call (.ref (p.F f)) args) (CR (L2.CX P w) outer P w H s Q E) s

/-- the names of the module that the text reads: defs, constants, exceptions -/
structure GMs where
  fn : Nat → Option Str
  cst : Nat → Option (Str × D)
  exc : Nat → Option Str
  hv : Nat → Bool
  gd : Bool
  lm : Bool
  tb : Bool
  hd : Nat → Option (Str × Nat)
/-- a name that is no word of the language's own -/
def plainN (x : Str) : Bool := !(x == ("__debug__" : Str)) && !(x == ("__classdict__" : Str))
theorem plainN_d {x : Str} (h : plainN x = true) : (x == ("__debug__" : Str)) = false ∧ (x == ("__classdict__" : Str)) = false := by
  unfold plainN at h
  simpa using h
def ExcOk (p : Pl) (mg : Str → Option Value) (x : Str) (c : Nat) : Prop := mg x = some (.ref (p.C c)) ∧ PySem.W.keepIn p.K (.ref (p.C c)) = true ∧ PySem.W.subIn p.K (.ref (p.C c)) (.type "BaseException") = some true ∧ PySem.W.typeIn p.K (.ref (p.C c)) = some (.type "type") ∧
      ∃ (bmB : List Value) (Bn newId initId : String), ExcBaseFacts Bn newId initId bmB ∧ PySem.W.excIn p.K (p.C c) bmB newId = true
/-- the built-in names that the text may read -/
def bltN : List String := ["len", "tuple", "list", "sorted", "repr", "int", "abs", "min", "max", "sum", "any", "all", "isinstance", "range", "zip", "enumerate", "bool", "str", "dict", "set"]
/-- a def that calls what it gets: ("told", its value), or ("nothing",) for errors of the class e -/
def toldB (a e : Str) : List Stmt → Bool
  | [.Try [.Return (some (.Tuple [.Constant (.str w1) _ _, .Call (.Name y _) [] [] _] _ _)) _] [.ExceptHandler (some (.Name z _)) none [.Return (some (.Tuple [.Constant (.str w2) _ _] _ _)) _] _] [] [] _] => decide (w1 = told) && decide (y = a) && decide (z = e) && decide (w2 = nothing_)
  | _ => false
structure HeardD (p : Pl) (mg : Str → Option Value) (f : Nat) (x : Str) (c : Nat) : Prop where
  pl : plainN x = true
  at_ : mg x = some (.ref (p.F f))
  keep : PySem.W.keepIn p.K (.ref (p.F f)) = true
  exm : PySem.W.exmOne p.K (.ref (p.C c)) (.ref (p.C c)) = some true
  def_ : ∃ (a e : Str) (Ng : List Str) (qg : Str) (pg : Arguments) (bg : List Stmt) (sg : Scope) (dV kV doc pm cdv ct oc : Value) (an od : Option Addr) (osl : Array (Option Value)),
    p.K.lookup (p.F f) = some ⟨oc, od, .func (PySem.W.fnOf x qg pg bg sg dV kV doc pm an cdv ct), osl⟩ ∧ PySem.W.codeIn p.K cdv qg = true ∧ Binds p.K (PySem.W.fnOf x qg pg bg sg dV kV doc pm an cdv ct) [a] [] ∧ FnScope Ng [a] sg ∧ Ng[0]? = some a ∧ Vis sg a ∧ plainN a = true ∧
    toldB a e bg = true ∧ sg.names.lookup e = some .globalImplicit ∧ plainN e = true ∧ mg e = some (.ref (p.C c))
structure GOk (p : Pl) (mg : Str → Option Value) (Γ : GMs) : Prop where
  fn : ∀ f x, Γ.fn f = some x → mg x = some (.ref (p.F f)) ∧ p.ok f ∧ plainN x = true
  cst : ∀ j x d, Γ.cst j = some (x, d) → plainN x = true ∧ ∃ u v, mg x = some u ∧ RelV v u ∧ ∀ H, Rf p H v d []
  exc : ∀ c x, Γ.exc c = some x → plainN x = true ∧ ExcOk p mg x c
  blt : ∀ b ∈ bltN, mg (Str.ofString b) = none
  hv : ∀ f, p.hv f = true → Γ.hv f = true
  hd : ∀ f x c, Γ.hd f = some (x, c) → HeardD p mg f x c
theorem GOk.flag {p : Pl} {mg : Str → Option Value} {Γ : GMs} (g : GOk p mg Γ) (a b c : Bool) : GOk p mg { Γ with gd := a, lm := b, tb := c } := ⟨g.fn, g.cst, g.exc, g.blt, g.hv, g.hd⟩

structure XOk (p : Pl) (Γ : GMs) (N : List Str) (C : Cs) (k : Nat) (W : WX) (sc : Scope) (fo : Str → Bool) (X : Cx) : Prop where
  K : p.K = X.K
  N : X.N = N
  nd : X.N.Nodup
  calm : X.calm = true
  room : Room (3 * k) X.A
  room2 : Γ.lm = true → Room (3 * k + 2) X.A
  guards : Γ.gd = true → X.A.guards = some []
  scope : X.env.scope = sc
  fnx : ∀ x, fo x = true → X.fn x = true
  kind : sc.kind = .function
  pass : PassesOwn (model X.prog X.w) X.A X.env X.xe
  takes : Takes X W
  calls : ∀ f, p.ok f → FnG X.prog X.w X.mg X.base p C k f
  gl : GOk p X.mg Γ
  ndN : ∀ x ∈ X.N, plainN x = true
  lam : Γ.tb = true → ∃ c P, LamX.TabB X.base X.mg c P ∧ X.env.code = .ref c ∧ (P, X.env.qual ++ ("<lambda>" : Str)) ∈ p.T ∧ ∀ q ∈ p.T, q.1 = P → q.2 = X.env.qual ++ ("<lambda>" : Str)

section
variable {p : Pl} {Γ : GMs} {N : List Str} {C : Cs} {k : Nat} {W : WX} {sc : Scope} {fo : Str → Bool} {X : Cx}
theorem XOk.hu (O : XOk p Γ N C k W sc fo X) : X.A.units + 65 < cLine := by have := O.room.un; omega
theorem XOk.o2 (O : XOk p Γ N C k W sc fo X) : True := trivial

/-- a def is called -/
theorem call_ok (O : XOk p Γ N C k W sc fo X) {f : Nat} (hf : p.ok f) (hh : (Γ.gd || !Γ.hv f) = true) {pins : List (Addr × Obj)} {σ : L2.St} {H : Hp} {s : Shared} {Q : VK} {us : List Value} {vs : List V} (I : Inv X pins σ H s) (r : Vals vs us)
    (h : spN p C f vs H Q (fun c d H' => W c d σ H')) : wpAny (model X.prog X.w) X.A (call (.ref (p.F f)) us) (EP X pins σ Q) X.xe s := by
  obtain ⟨hk, fd, ps, hb, ar, run⟩ := O.calls f hf
  have e0 : Env0 X.prog X.w p.K X.mg X.base X.A X.stack s H := by
    rw [O.K]
    exact I.env0
  have kin : p.K.In s.heap := by
    rw [O.K]
    exact I.kIn
  -- the arguments are as many as the parameters
  have hl : us.length = ps.length := by
    by_cases q : us.length = ps.length
    · exact q
    · obtain ⟨ds, fps, B, h1, h2, h3⟩ := h
      rw [ar ds B (by rw [← h1.length, r.length]; exact q)] at h3
      exact h3.elim
  have bt : BindsTo s fd ⟨us, []⟩ (ps.zip us) := by
    have := hb s us kin (by simpa using hl)
    simpa using this
  refine wpAny_call (codeAny_mono (run X.A X.stack s H ⟨us, []⟩ us vs Q _ (fun z => O.guards (by rw [O.gl.hv f z] at hh; simpa using hh)) O.room e0 bt r h) fun r' s' hq => ?_)
  cases r' with
  | error e => exact O.takes _ _ (XE.of_call I (fun _ _ _ z => z) hq)
  | ok fl =>
    cases fl with
    | ret u => exact I.after hq
    | next => exact hq.elim
    | brk => exact hq.elim
    | cont => exact hq.elim
end

section
variable {p : Pl} {W : WX} {σ : L2.St} {H : Hp}
theorem PostG.bres {o : Option Bool} {B : Bag} {k : RV → Bag → Hp → Prop} (h : PostG p W σ H (bRes o B) k) : ∃ b, o = some b ∧ ∀ H', Ext p.g H H' → Amb p B H' → k ⟨.bl b, .D⟩ B H' := by
  cases o with
  | none => exact h.elim
  | some b => exact ⟨b, rfl, h⟩
theorem truth_ok {K : PySem.W.Frag} (hK : p.K = K) {d : D} {v : V} {fp : List Addr} {b : Bool} (r : Rf p H v d fp) (e : truth d = some b) : TruV K v H b := by
  cases d with
  | non => cases r.non_; cases e; rfl
  | bl c => cases r.bl_; cases e; rfl
  | int i => cases r.int_; cases e; rfl
  | str s =>
    cases r.str_
    have e : (if s.length ≤ 1000000 then some (s.length != 0) else none) = some b := e
    split at e
    · rename_i hl
      cases e
      refine ⟨by rw [sizeLine_eq]; omega, ?_⟩
      show (s.length != 0) = ((s.length : Int) != 0)
      cases s.length <;> rfl
    · cases e
  | tup l =>
    obtain ⟨a, vs, rfl, s1, l1⟩ := r.tup_
    cases e
    rw [hK] at s1
    refine .inr (.inl ⟨vs, s1, ?_⟩)
    cases l1 <;> rfl
  | lst l =>
    obtain ⟨a, vs, g, rfl, s1, k1, rfl, l1⟩ := r.lst_
    cases e
    refine .inl ⟨vs, SqL.of s1, ?_⟩
    cases l1 <;> rfl
  | _ => cases e
end

section
variable {X : Cx} {p : Pl} {C : Cs} {W : WX}
/-- a test that is its value's truth -/
theorem t_dflt (hK : p.K = X.K) {e : Expr} {e' : E} (he : PE X e (rdE p C W e')) (hi : ∀ whole, isTrue e X.env whole = (do let v ← whole; standAt e.pos; holding [v] (truthy v)))
    (ht : ∀ δ B, ev C e' true δ B = (ev C e' false δ B).bind fun r B => bRes (truth r.d) B) : PT X e (rdT p C W e') := by
  refine (pt_truth he hi).weak fun σ H Q h => ?_
  obtain ⟨δ, B, Z, H0, pre, post⟩ := h
  rw [ht] at post
  refine ⟨δ, B, Z, H0, pre, (PostG.bind post).mono fun r B1 H1 e1 a1 h1 v hv => ?_⟩
  obtain ⟨b, e2, h2⟩ := PostG.bres h1
  obtain ⟨fp, rf⟩ := hv.rf
  obtain ⟨b', e3, q⟩ := h2 H1 (.refl _ _) a1
  cases e3
  exact ⟨b, truth_ok hK rf e2, q⟩
/-- a value that needs no heap -/
theorem e_val {e : Expr} {e' : E} {d : D} {v : V} (he : PE X e (tC v)) (hv : ∀ H, Rf p H v d []) (hev : ∀ δ B, ev C e' false δ B = .ok ⟨d, .D⟩ B) : PE X e (rdE p C W e') := by
  refine he.weak fun σ H Q h => ?_
  obtain ⟨δ, B, Z, H0, pre, post⟩ := h
  rw [hev] at post
  exact post H (.refl _ _) pre.amb v (.plain (hv H))
theorem e_var {e : Expr} {i : Nat} (he : PE X e (tVar i)) : PE X e (rdE p C W (.v i)) := by
  refine he.weak fun σ H Q h => ?_
  obtain ⟨δ, B, Z, H0, pre, post⟩ := h
  have post : PostG p W σ H (match slot δ i with | some r => asTest false r B | none => .st) _ := post
  unfold slot at post
  cases q : δ.get i with
  | none => rw [q] at post; exact post.elim
  | some md =>
    obtain ⟨m, d⟩ := md
    rw [q] at post
    obtain ⟨v, fp, h1, h2, h3⟩ := pre.env.at_ i m d q
    refine ⟨v, h1, post H (.refl _ _) pre.amb v ?_⟩
    have r2 := h2.ext pre.ext
    by_cases hd : d.flat = true
    · simp only [hd, if_true]
      exact .of_flat r2 hd
    · simp only [hd]
      cases m with
      | S => exact ⟨fp, r2, fun b hb => .inl (h3 b hb)⟩
      | R =>
        obtain ⟨a, qq, e1, e2⟩ := h3
        exact ⟨fp, r2, a, qq, e1, fun b hb => .inl (e2 b hb)⟩
      | D => exact ⟨fp, r2, trivial⟩
theorem asT_false (r : RV) (B : Bag) : asTest false r B = .ok r B := rfl
theorem asT_true (r : RV) (B : Bag) : asTest true r B = bRes (truth r.d) B := rfl
theorem e_o2 {a b e : Expr} {a' b' : E} {o : O2} (ha : PE X a (rdE p C W a')) (hb : PE X b (rdE p C W b')) (pe : ∀ ta tb, PE X a ta → PE X b tb → PE X e (tOp (rD2 p (o2F o)) ta tb)) : PE X e (rdE p C W (.o2 o a' b')) := by
  refine (pe _ _ ha hb).weak fun σ H Q h => ?_
  obtain ⟨δ, B, Z, H0, pre, post⟩ := h
  refine ⟨δ, B, Z, H0, pre, (PostG.bind post).mono fun ra B1 H1 e1 a1 h1 v hv => ⟨δ, B1, Z, H0, pre.at e1 a1, (PostG.bind h1).mono fun rb B2 H2 e2 a2 h2 u hu => ?_⟩⟩
  obtain ⟨rz, e, h3⟩ := PostG.opt (PostG.bind h2)
  exact ⟨Z, H0, H, ra, rb, rz, (hv.ext e2).back pre.ext, hu.back (pre.ext.trans e1), e1.trans e2, a2.there, e, fun w H3 sm vr => h3 H3 (.of_same sm) (a2.same sm) H3 (.refl _ _) (a2.same sm) w vr⟩
/-- comparisons give a truth -/
def O2.cmp : O2 → Bool
  | .add => false | .sub => false | .mul => false | .mod => false | .fdiv => false | .pow => false
  | _ => true
theorem cmp_bl {o : O2} (ho : o.cmp = true) {x y r : RV} (e : o2F o x y = some r) : ∃ b, r = ⟨.bl b, .D⟩ := by
  obtain ⟨dx, fx⟩ := x
  obtain ⟨dy, fy⟩ := y
  cases o <;> first | cases ho | skip
  all_goals (simp only [o2F] at e; (repeat' split at e) <;> first | (cases e; done) | exact ⟨_, plain_some e⟩)
theorem t_o2 {a b e : Expr} {a' b' : E} {o : O2} (ho : o.cmp = true) (ha : PE X a (rdE p C W a')) (hb : PE X b (rdE p C W b')) (pt : ∀ ta tb, PE X a ta → PE X b tb → PT X e (tTest (tOp (rD2 p (o2F o)) ta tb))) : PT X e (rdT p C W (.o2 o a' b')) := by
  refine (pt _ _ ha hb).weak fun σ H Q h => ?_
  obtain ⟨δ, B, Z, H0, pre, post⟩ := h
  refine ⟨δ, B, Z, H0, pre, (PostG.bind post).mono fun ra B1 H1 e1 a1 h1 v hv => ⟨δ, B1, Z, H0, pre.at e1 a1, (PostG.bind h1).mono fun rb B2 H2 e2 a2 h2 u hu => ?_⟩⟩
  obtain ⟨rz, e, h3⟩ := PostG.opt (PostG.bind h2)
  refine ⟨Z, H0, H, ra, rb, rz, (hv.ext e2).back pre.ext, hu.back (pre.ext.trans e1), e1.trans e2, a2.there, e, fun w H3 sm vr => ?_⟩
  obtain ⟨c, rfl⟩ := cmp_bl ho e
  obtain ⟨fp, rf⟩ := vr.rf
  cases rf.bl_
  have h5 := h3 H3 (.of_same sm) (a2.same sm)
  rw [asT_true] at h5
  obtain ⟨c', e4, h4⟩ := PostG.bres h5
  cases e4
  obtain ⟨c2, e5, q⟩ := h4 H3 (.refl _ _) (a2.same sm)
  cases e5
  exact ⟨c, rfl, q⟩

/-! ### more forms -/
theorem rdE_use {σ : L2.St} {H : Hp} {e' : E} {δ : Env} {B : Bag} {Z : Addr → Prop} {H0 : Hp} {k : RV → Bag → Hp → Prop} {Q : VK} (pre : Pre p δ B Z H0 σ H) (h : PostG p W σ H (ev C e' false δ B) k) (m : ∀ r B1 H1, Ext p.g H H1 → Amb p B1 H1 → k r B1 H1 → ∀ v, VR p Z H0 H r v H1 → Q v H1) :
    rdE p C W e' σ H Q := ⟨δ, B, Z, H0, pre, h.mono fun r B1 H1 e1 a1 h1 => m r B1 H1 e1 a1 h1⟩
theorem rdT_use {σ : L2.St} {H : Hp} {e' : E} {δ : Env} {B : Bag} {Z : Addr → Prop} {H0 : Hp} {k : RV → Bag → Hp → Prop} {Q : Bool → Hp → Prop} (pre : Pre p δ B Z H0 σ H) (h : PostG p W σ H (ev C e' true δ B) k) (m : ∀ r B1 H1, Ext p.g H H1 → Amb p B1 H1 → k r B1 H1 → ∃ b, r.d = .bl b ∧ Q b H1) :
    rdT p C W e' σ H Q := ⟨δ, B, Z, H0, pre, h.mono fun r B1 H1 e1 a1 h1 => m r B1 H1 e1 a1 h1⟩
theorem rdL_use {σ : L2.St} {H : Hp} {l : EL} {δ : Env} {B : Bag} {Z : Addr → Prop} {H0 : Hp} {k : List RV → Bag → Hp → Prop} {Q : List V → Hp → Prop} (pre : Pre p δ B Z H0 σ H) (h : PostG p W σ H (evL C l δ B) k) (m : ∀ r B1 H1, Ext p.g H H1 → Amb p B1 H1 → k r B1 H1 → ∀ v, VRL p Z H0 H r v H1 → Q v H1) :
    rdL p C W l σ H Q := ⟨δ, B, Z, H0, pre, h.mono fun r B1 H1 e1 a1 h1 => m r B1 H1 e1 a1 h1⟩
theorem l_nil : PA X [] (rdL p C W .nil) := pa_nil.weak fun σ H Q ⟨δ, B, Z, H0, pre, post⟩ => post H (.refl _ _) pre.amb [] trivial
theorem l_cons {e : Expr} {es : List Expr} {e' : E} {l : EL} (he : PE X e (rdE p C W e')) (hl : PA X es (rdL p C W l)) (hs : starEach (e :: es) X.env = (false, eval e X.env) :: starEach es X.env) : PA X (e :: es) (rdL p C W (.cons e' l)) := by
  refine (pa_cons he hl hs).weak fun σ H Q h => ?_
  obtain ⟨δ, B, Z, H0, pre, post⟩ := h
  exact rdE_use pre (PostG.bind post) fun r B1 H1 e1 a1 h1 v hv => rdL_use (pre.at e1 a1) (PostG.bind h1) fun rs B2 H2 e2 a2 h2 vs hvs => h2 H2 (.refl _ _) a2 (v :: vs) ⟨H1, e1, hv, e2, hvs⟩
/-- the items of a display -/
theorem VRL.kids {Z : Addr → Prop} {H0 : Hp} : ∀ {Hs : Hp} {rs : List RV} {vs : List V} {H : Hp}, Ext p.g H0 Hs → VRL p Z H0 Hs rs vs H → ∃ fp, RfL p H vs (rs.map (·.d)) fp ∧ (rs.any (fun r => r.f.lent) = false → Shd Z H0 fp) ∧ (rs.all (fun r => decide (r.f = .D)) = true → fp.Nodup ∧ ∀ a ∈ fp, Hs a = none)
  | _, [], [], H, _, _ => ⟨[], .nil, fun _ => .nil, fun _ => ⟨List.nodup_nil, fun a h => absurd h (by simp)⟩⟩
  | Hs, r :: rs, v :: vs, H, e0, ⟨H1, e1, ⟨f1, a1, a2⟩, e2, b⟩ => by
    obtain ⟨f2, b1, b2, b3⟩ := VRL.kids (e0.trans e1) b
    refine ⟨f1 ++ f2, .cons (a1.ext e2) b1, fun h => ?_, fun h => ?_⟩
    · simp only [List.any_cons, Bool.or_eq_false_iff] at h
      exact (Hd.all (a2.back e0) h.1).app (b2 h.2)
    · simp only [List.all_cons, Bool.and_eq_true, decide_eq_true_eq] at h
      rw [h.1] at a2
      obtain ⟨n2, q2⟩ := b3 h.2
      refine ⟨List.nodup_append.mpr ⟨a2.1, n2, fun x hx y hy z => ?_⟩, fun a ha => ?_⟩
      · obtain ⟨us, t1, _⟩ := a1.there x hx
        rw [z, q2 y hy] at t1
        cases t1
      · rcases List.mem_append.mp ha with q | q
        · exact a2.2 a q
        · exact e1.free (q2 a q)
  | _, [], _ :: _, _, _, h => h.elim
  | _, _ :: _, [], _, _, h => h.elim

theorem VRL.length {Z : Addr → Prop} {H0 : Hp} : ∀ {Hs H : Hp} {rs : List RV} {vs : List V}, VRL p Z H0 Hs rs vs H → vs.length = rs.length
  | _, _, [], [], _ => rfl
  | _, _, _ :: _, _ :: _, ⟨_, _, _, _, d⟩ => congrArg (· + 1) (VRL.length d)
  | _, _, [], _ :: _, h => h.elim
  | _, _, _ :: _, [], h => h.elim
theorem flagU_ok {Z : Addr → Prop} {H0 Hs H : Hp} {rs : List RV} {vs : List V} {q : Addr} {r : RV} (e0 : Ext p.g H0 Hs) (h : VRL p Z H0 Hs rs vs H) (hn : H q = none) (hg : ∃ o, H p.g = some o) {ob : Obj} (hob : ob.dict = none) (e : flagU rs = some r) : VR p Z H0 Hs r (.ref q) (upd H q (.frz ob (.tup vs))) := by
  obtain ⟨fp, h1, h2, h3⟩ := h.kids e0
  have sm := Same.new (o := .frz ob (.tup vs)) hn
  have rf : Rf p (upd H q (.frz ob (.tup vs))) (.ref q) (.tup (rs.map (·.d))) fp := .tup ⟨ob, upd_same, hob⟩ (nog hn hg) (h1.ext (.of_same sm))
  unfold flagU at e
  split at e
  · cases e
  · split at e
    · rename_i c
      cases e
      exact ⟨fp, rf, h3 c⟩
    · split at e
      · cases e
      · rename_i c
        cases e
        exact ⟨fp, rf, h2 (by simpa using c)⟩
theorem flagL_ok {Z : Addr → Prop} {H0 Hs H : Hp} {rs : List RV} {vs : List V} {q : Addr} {r : RV} (e0 : Ext p.g H0 Hs) (h : VRL p Z H0 Hs rs vs H) (hsH : Ext p.g Hs H) (hn : H q = none) (hg : ∃ o, H p.g = some o) (e : flagL rs = some r) : VR p Z H0 Hs r (.ref q) (upd H q (.lst vs)) := by
  obtain ⟨fp, h1, h2, h3⟩ := h.kids e0
  have sm := Same.new (o := .lst vs) hn
  have rf : Rf p (upd H q (.lst vs)) (.ref q) (.lst (rs.map (·.d))) (q :: fp) := .lst upd_same (nog hn hg) (h1.ext (.of_same sm))
  have nq := h1.fresh hn
  unfold flagL at e
  split at e
  · cases e
  · split at e
    · rename_i c
      cases e
      obtain ⟨n1, n2⟩ := h3 c
      exact ⟨q :: fp, rf, List.nodup_cons.mpr ⟨nq, n1⟩, fun a ha => (List.mem_cons.mp ha).elim (fun z => z ▸ hsH.free hn) (n2 a)⟩
    · split at e
      · cases e
      · rename_i c
        cases e
        exact ⟨q :: fp, rf, q, fp, rfl, hsH.free hn, nq, h2 (by simpa using c)⟩
theorem flagU_len {rs : List RV} {r : RV} (e : flagU rs = some r) : rs.length ≤ 1000000 := by
  unfold flagU at e
  split at e
  · cases e
  · omega
theorem flagL_len {rs : List RV} {r : RV} (e : flagL rs = some r) : rs.length ≤ 1000000 := by
  unfold flagL at e
  split at e
  · cases e
  · omega
theorem e_tup {es : List Expr} {l : EL} {x1 : Nat} {pos : Pos} (hl : PA X es (rdL p C W l)) : PE X (.Tuple es x1 pos) (rdE p C W (.tup l)) := by
  refine (pe_tupF hl).weak fun σ H Q h => ?_
  obtain ⟨δ, B, Z, H0, pre, post⟩ := h
  refine rdL_use pre (PostG.bind (r := evL C l δ B) post) fun rs B1 H1 e1 a1 h1 vs hvs => ?_
  obtain ⟨r, e, h3⟩ := PostG.opt (PostG.bind h1)
  refine ⟨by rw [hvs.length, sizeLine_eq]; have := flagU_len e; omega, fun q hn ob hob => ?_⟩
  have sm := Same.new (o := .frz ob (.tup vs)) hn
  exact h3 _ (.of_same sm) (a1.same sm) _ (.refl _ _) (a1.same sm) _ (flagU_ok pre.ext hvs hn a1.there hob e)
theorem e_lst {es : List Expr} {l : EL} {pos : Pos} (hl : PA X es (rdL p C W l)) : PE X (.List es pos) (rdE p C W (.lst l)) := by
  refine (pe_lst hl).weak fun σ H Q h => ?_
  obtain ⟨δ, B, Z, H0, pre, post⟩ := h
  refine rdL_use pre (PostG.bind (r := evL C l δ B) post) fun rs B1 H1 e1 a1 h1 vs hvs => ?_
  obtain ⟨r, e, h3⟩ := PostG.opt (PostG.bind h1)
  refine ⟨by rw [hvs.length, sizeLine_eq]; have := flagL_len e; omega, fun q hn => ?_⟩
  have sm := Same.new (o := .lst vs) hn
  exact h3 _ (.of_same sm) (a1.same sm) _ (.refl _ _) (a1.same sm) _ (flagL_ok pre.ext hvs e1 hn a1.there e)
theorem e_ix {a b : Expr} {a' b' : E} {pos : Pos} (hK : p.K = X.K) (hu : X.A.units + 65 < cLine) (ha : PE X a (rdE p C W a')) (hb : PE X b (rdE p C W b')) (hs : PlainIx b) : PE X (.Subscript a b pos) (rdE p C W (.ix a' b')) := by
  refine (pe_ix (ix_okD hK hu) ha hb hs).weak fun σ H Q h => ?_
  obtain ⟨δ, B, Z, H0, pre, post⟩ := h
  refine rdE_use pre (PostG.bind post) fun ra B1 H1 e1 a1 h1 v hv => rdE_use (pre.at e1 a1) (PostG.bind h1) fun rb B2 H2 e2 a2 h2 u hu => ?_
  obtain ⟨rz, e, h3⟩ := PostG.opt (PostG.bind h2)
  exact ⟨Z, H0, H, ra, rb, rz, (hv.ext e2).back pre.ext, hu.back (pre.ext.trans e1), e1.trans e2, a2.there, e, fun w H3 sm vr => h3 H3 (.of_same sm) (a2.same sm) H3 (.refl _ _) (a2.same sm) w vr⟩
/-- a built-in function or type by its name -/
theorem e_bi {e : Expr} {b : Bi} {l : EL} {es : List Expr} (hl : PA X es (rdL p C W l)) (pe : ∀ ta, PA X es ta → PE X e (tCB (rDN p (biF b)) ta)) : PE X e (rdE p C W (.bi b l)) := by
  refine (pe _ hl).weak fun σ H Q h => ?_
  obtain ⟨δ, B, Z, H0, pre, post⟩ := h
  refine rdL_use pre (PostG.bind (r := evL C l δ B) post) fun rs B1 H1 e1 a1 h1 vs hvs => ?_
  obtain ⟨rz, e, h3⟩ := PostG.opt (PostG.bind h1)
  exact ⟨Z, H0, H, rs, rz, hvs.each pre.ext, e1, a1.there, e, fun w H3 sm vr => h3 H3 (.of_same sm) (a1.same sm) H3 (.refl _ _) (a1.same sm) w vr⟩
theorem e_ife {c a b : Expr} {c' a' b' : E} {pos : Pos} (hc : PT X c (rdT p C W c')) (ha : PE X a (rdE p C W a')) (hb : PE X b (rdE p C W b')) : PE X (.IfExp c a b pos) (rdE p C W (.ife c' a' b')) := by
  refine (pe_ifExp hc ha hb).weak fun σ H Q h => ?_
  obtain ⟨δ, B, Z, H0, pre, post⟩ := h
  refine rdT_use pre (PostG.bind post) fun r B1 H1 e1 a1 h1 => ?_
  obtain ⟨d, f⟩ := r
  cases d with
  | bl b =>
    refine ⟨b, rfl, ?_⟩
    cases b with
    | true =>
      rw [if_pos rfl]
      exact rdE_use (pre.at e1 a1) h1 fun r2 B2 H2 e2 a2 h2 v hv => h2 v (hv.back e1)
    | false =>
      rw [if_neg Bool.false_ne_true]
      exact rdE_use (pre.at e1 a1) h1 fun r2 B2 H2 e2 a2 h2 v hv => h2 v (hv.back e1)
  | _ => exact h1.elim

theorem rdX_use {σ : L2.St} {H : Hp} {f : Env → Bag → Res RV} {δ : Env} {B : Bag} {Z : Addr → Prop} {H0 : Hp} {k : RV → Bag → Hp → Prop} {Q : VK} (pre : Pre p δ B Z H0 σ H) (h : PostG p W σ H (f δ B) k) (m : ∀ r B1 H1, Ext p.g H H1 → Amb p B1 H1 → k r B1 H1 → ∀ v, VR p Z H0 H r v H1 → Q v H1) :
    rdX p W f σ H Q := ⟨δ, B, Z, H0, pre, h.mono fun r B1 H1 e1 a1 h1 => m r B1 H1 e1 a1 h1⟩
theorem rdY_use {σ : L2.St} {H : Hp} {f : Env → Bag → Res RV} {δ : Env} {B : Bag} {Z : Addr → Prop} {H0 : Hp} {k : RV → Bag → Hp → Prop} {Q : Bool → Hp → Prop} (pre : Pre p δ B Z H0 σ H) (h : PostG p W σ H (f δ B) k) (m : ∀ r B1 H1, Ext p.g H H1 → Amb p B1 H1 → k r B1 H1 → ∃ b, r.d = .bl b ∧ Q b H1) :
    rdY p W f σ H Q := ⟨δ, B, Z, H0, pre, h.mono fun r B1 H1 e1 a1 h1 => m r B1 H1 e1 a1 h1⟩
theorem rdX_same {σ : L2.St} {H : Hp} {f : Env → Bag → Res RV} {δ : Env} {B : Bag} {Z : Addr → Prop} {H0 Hs : Hp} {Q : VK} (pre : Pre p δ B Z H0 σ H) (e0 : Ext p.g Hs H) (h : PostG p W σ H (f δ B) fun r _ H' => ∀ v, VR p Z H0 Hs r v H' → Q v H') : rdX p W f σ H Q :=
  rdX_use pre h fun r B1 H1 e1 a1 h1 v hv => h1 v (hv.back e0)
theorem rdY_same {σ : L2.St} {H : Hp} {f : Env → Bag → Res RV} {δ : Env} {B : Bag} {Z : Addr → Prop} {H0 : Hp} {Q : Bool → Hp → Prop} (pre : Pre p δ B Z H0 σ H) (h : PostG p W σ H (f δ B) fun r _ H' => ∃ b, r.d = .bl b ∧ Q b H') : rdY p W f σ H Q := ⟨δ, B, Z, H0, pre, h⟩
theorem t_ife {c a b : Expr} {c' a' b' : E} {pos : Pos} (hc : PT X c (rdT p C W c')) (ha : PT X a (rdT p C W a')) (hb : PT X b (rdT p C W b')) : PT X (.IfExp c a b pos) (rdT p C W (.ife c' a' b')) := by
  refine ⟨fun pins s σ H Q I h => ?_⟩
  obtain ⟨δ, B, Z, H0, pre, post⟩ := h
  rw [arm_isTrue_IfExp]
  refine wpAny_bind (thn (hc.run pins s σ H (fun c H1 => if c = true then rdT p C W a' σ H1 Q else rdT p C W b' σ H1 Q) I (rdT_use pre (PostG.bind post) fun r B1 H1 e1 a1 h1 => ?_)) fun c s1 ⟨H1, I1, q1⟩ => ?_)
  · obtain ⟨d, f⟩ := r
    cases d with
    | bl b =>
      refine ⟨b, rfl, ?_⟩
      cases b with
      | true => rw [if_pos rfl]; exact rdY_same (pre.at e1 a1) h1
      | false => rw [if_neg Bool.false_ne_true]; exact rdY_same (pre.at e1 a1) h1
    | _ => exact h1.elim
  · cases c with
    | true => rw [if_pos rfl] at q1 ⊢; exact ha.run pins s1 σ H1 Q I1 q1
    | false => rw [if_neg Bool.false_ne_true] at q1 ⊢; exact hb.run pins s1 σ H1 Q I1 q1
theorem ev_nt (a : E) (t : Bool) (δ : Env) (B : Bag) : ev C (.nt a) t δ B = (ev C a true δ B).bind fun x B => match x.d with | .bl b => .ok ⟨.bl (!b), .D⟩ B | _ => .st := by cases t <;> rfl
theorem t_nt {a : Expr} {a' : E} {pos : Pos} (ha : PT X a (rdT p C W a')) : PT X (.UnaryOp .Not a pos) (rdT p C W (.nt a')) := by
  refine (pt_not ha).weak fun σ H Q h => ?_
  obtain ⟨δ, B, Z, H0, pre, post⟩ := h
  rw [ev_nt] at post
  refine rdY_use pre (PostG.bind post) fun r B1 H1 e1 a1 h1 => ?_
  obtain ⟨d, f⟩ := r
  cases d with
  | bl b =>
    obtain ⟨c, e, q⟩ := h1 H1 (.refl _ _) a1
    cases e
    exact ⟨b, rfl, q⟩
  | _ => exact h1.elim
/-- not, as a value: its operand's truth -/
theorem e_nt {a : Expr} {a' : E} {pos : Pos} (ha : PE X a (rdE p C W a')) (hK : p.K = X.K) : PE X (.UnaryOp .Not a pos) (rdE p C W (.nt a')) := by
  refine (pe_notT ha).weak fun σ H Q h => ?_
  obtain ⟨δ, B, Z, H0, pre, post⟩ := h
  rw [ev_nt] at post
  have post := PostG.bind post
  rw [ev_tt] at post
  refine rdX_use pre (PostG.bind post) fun r B1 H1 e1 a1 h1 v hv => ?_
  obtain ⟨b, e2, h2⟩ := PostG.bres h1
  obtain ⟨fp, rf⟩ := hv.rf
  have h3 := h2 H1 (.refl _ _) a1
  exact ⟨b, truth_ok hK rf e2, h3 H1 (.refl _ _) a1 _ (.plain (.bl _))⟩
/-! ### and, or -/
theorem e_an1 {e : Expr} {e' : E} {pos : Pos} (he : PE X e (rdE p C W e')) : PE X (.BoolOp .And [e] pos) (rdX p W (evAn C (.cons e' .nil) false)) := pe_one he
theorem e_or1 {e : Expr} {e' : E} {pos : Pos} (he : PE X e (rdE p C W e')) : PE X (.BoolOp .Or [e] pos) (rdX p W (evOr C (.cons e' .nil) false)) := pe_one he
theorem t_an1 {e : Expr} {e' : E} {pos : Pos} (he : PT X e (rdT p C W e')) : PW X (.BoolOp .And [e] pos) (rdY p W (evAn C (.cons e' .nil) true)) := pw_and1 he
theorem t_or1 {e : Expr} {e' : E} {pos : Pos} (he : PT X e (rdT p C W e')) : PW X (.BoolOp .Or [e] pos) (rdY p W (evOr C (.cons e' .nil) true)) := pw_or1 he
theorem _root_.L2.PW.weak {e : Expr} {t t' : TT} (h : PW X e t) (w : ∀ σ H Q, t' σ H Q → t σ H Q) : PW X e t' := ⟨fun wh pins s σ H Q I q => h.run wh pins s σ H Q I (w σ H Q q)⟩
theorem e_an {e e2 : Expr} {es : List Expr} {e' e2' : E} {l : EL} {pos : Pos} (hK : p.K = X.K) (he : PE X e (rdE p C W e')) (hr : PE X (.BoolOp .And (e2 :: es) pos) (rdX p W (evAn C (.cons e2' l) false))) :
    PE X (.BoolOp .And (e :: e2 :: es) pos) (rdX p W (evAn C (.cons e' (.cons e2' l)) false)) := by
  refine (pe_andT he hr).weak fun σ H Q h => ?_
  obtain ⟨δ, B, Z, H0, pre, post⟩ := h
  refine rdX_use pre (PostG.bind post) fun r B1 H1 e1 a1 h1 v hv => ?_
  obtain ⟨fp, rf⟩ := hv.rf
  cases q : truth r.d with
  | none => rw [q] at h1; exact h1.elim
  | some b =>
    rw [q] at h1
    refine ⟨b, truth_ok hK rf q, ?_⟩
    cases b with
    | true => rw [if_pos rfl]; exact rdX_same (pre.at e1 a1) e1 h1
    | false => rw [if_neg Bool.false_ne_true]; exact h1 H1 (.refl _ _) a1 v hv
theorem e_or {e e2 : Expr} {es : List Expr} {e' e2' : E} {l : EL} {pos : Pos} (hK : p.K = X.K) (he : PE X e (rdE p C W e')) (hr : PE X (.BoolOp .Or (e2 :: es) pos) (rdX p W (evOr C (.cons e2' l) false))) :
    PE X (.BoolOp .Or (e :: e2 :: es) pos) (rdX p W (evOr C (.cons e' (.cons e2' l)) false)) := by
  refine (pe_orT he hr).weak fun σ H Q h => ?_
  obtain ⟨δ, B, Z, H0, pre, post⟩ := h
  refine rdX_use pre (PostG.bind post) fun r B1 H1 e1 a1 h1 v hv => ?_
  obtain ⟨fp, rf⟩ := hv.rf
  cases q : truth r.d with
  | none => rw [q] at h1; exact h1.elim
  | some b =>
    rw [q] at h1
    refine ⟨b, truth_ok hK rf q, ?_⟩
    cases b with
    | true => rw [if_pos rfl]; exact h1 H1 (.refl _ _) a1 v hv
    | false => rw [if_neg Bool.false_ne_true]; exact rdX_same (pre.at e1 a1) e1 h1
theorem t_an {e e2 : Expr} {es : List Expr} {e' e2' : E} {l : EL} {pos : Pos} (he : PT X e (rdT p C W e')) (hr : PW X (.BoolOp .And (e2 :: es) pos) (rdY p W (evAn C (.cons e2' l) true))) :
    PW X (.BoolOp .And (e :: e2 :: es) pos) (rdY p W (evAn C (.cons e' (.cons e2' l)) true)) := by
  refine (pw_and he hr).weak fun σ H Q h => ?_
  obtain ⟨δ, B, Z, H0, pre, post⟩ := h
  have post : PostG p W σ H ((ev C e' true δ B).bind fun x B => match truth x.d with | some true => evAn C (.cons e2' l) true δ B | some false => .ok x B | none => .st) _ := post
  rw [ev_tt, bind_assoc] at post
  have goal : rdY p W (ev C e' true) σ H fun c H1 => if c = true then rdY p W (evAn C (.cons e2' l) true) σ H1 Q else Q false H1 := by
    refine ⟨δ, B, Z, H0, pre, ?_⟩
    rw [ev_tt]
    revert post
    cases ev C e' false δ B with
    | st => exact fun z => z
    | exc x B1 => exact fun z => z
    | ok r B1 =>
      show PostG p W σ H ((bRes (truth r.d) B1).bind _) _ → PostG p W σ H (bRes (truth r.d) B1) _
      cases truth r.d with
      | none => exact fun z => z
      | some b =>
        intro z H1 e1 a1
        refine ⟨b, rfl, ?_⟩
        cases b with
        | true => rw [if_pos rfl]; exact rdY_same (pre.at e1 a1) (PostG.ext (r := evAn C (.cons e2' l) true δ B1) z e1)
        | false =>
          rw [if_neg Bool.false_ne_true]
          obtain ⟨c, e3, q⟩ := z H1 e1 a1
          cases e3
          exact q
  exact goal
theorem t_or {e e2 : Expr} {es : List Expr} {e' e2' : E} {l : EL} {pos : Pos} (he : PT X e (rdT p C W e')) (hr : PW X (.BoolOp .Or (e2 :: es) pos) (rdY p W (evOr C (.cons e2' l) true))) :
    PW X (.BoolOp .Or (e :: e2 :: es) pos) (rdY p W (evOr C (.cons e' (.cons e2' l)) true)) := by
  refine (pw_or he hr).weak fun σ H Q h => ?_
  obtain ⟨δ, B, Z, H0, pre, post⟩ := h
  have post : PostG p W σ H ((ev C e' true δ B).bind fun x B => match truth x.d with | some false => evOr C (.cons e2' l) true δ B | some true => .ok x B | none => .st) _ := post
  rw [ev_tt, bind_assoc] at post
  have goal : rdY p W (ev C e' true) σ H fun c H1 => if c = true then Q true H1 else rdY p W (evOr C (.cons e2' l) true) σ H1 Q := by
    refine ⟨δ, B, Z, H0, pre, ?_⟩
    rw [ev_tt]
    revert post
    cases ev C e' false δ B with
    | st => exact fun z => z
    | exc x B1 => exact fun z => z
    | ok r B1 =>
      show PostG p W σ H ((bRes (truth r.d) B1).bind _) _ → PostG p W σ H (bRes (truth r.d) B1) _
      cases truth r.d with
      | none => exact fun z => z
      | some b =>
        intro z H1 e1 a1
        refine ⟨b, rfl, ?_⟩
        cases b with
        | false => rw [if_neg Bool.false_ne_true]; exact rdY_same (pre.at e1 a1) (PostG.ext (r := evOr C (.cons e2' l) true δ B1) z e1)
        | true =>
          rw [if_pos rfl]
          obtain ⟨c, e3, q⟩ := z H1 e1 a1
          cases e3
          exact q
  exact goal
/-! ### slices, chains, isinstance -/
def rdO (p : Pl) (C : Cs) (W : WX) (o : OE) : TO := fun σ H Q => ∃ δ B Z H0, Pre p δ B Z H0 σ H ∧ PostG p W σ H (evO C o δ B) fun r _ H' => Q r H'
theorem o_none : PO X none (rdO p C W .none) := by
  refine ⟨fun pins s σ H Q I h => po_none.run pins s σ H Q I ?_⟩
  obtain ⟨δ, B, Z, H0, pre, post⟩ := h
  exact post H (.refl _ _) pre.amb
theorem o_some {e : Expr} {e' : E} (he : PE X e (rdE p C W e')) : PO X (some e) (rdO p C W (.some e')) := by
  refine ⟨fun pins s σ H Q I h => (po_some he).run pins s σ H Q I ?_⟩
  obtain ⟨δ, B, Z, H0, pre, post⟩ := h
  refine rdX_use pre (PostG.bind post) fun r B1 H1 e1 a1 h1 v hv => ?_
  obtain ⟨d, f⟩ := r
  obtain ⟨fp, rf⟩ := hv.rf
  cases d with
  | int j =>
    cases rf.int_
    exact ⟨j, rfl, h1 H1 (.refl _ _) a1⟩
  | _ => exact h1.elim
theorem e_sl {a : Expr} {lo hi : Option Expr} {a' : E} {lo' hi' : OE} {pos p2 : Pos} (hK : p.K = X.K) (ha : PE X a (rdE p C W a')) (hl : PO X lo (rdO p C W lo')) (hh : PO X hi (rdO p C W hi')) : PE X (.Subscript a (.Slice lo hi none p2) pos) (rdE p C W (.sl a' lo' hi')) := by
  refine (pe_slice (sl_okD hK) ha hl hh).weak fun σ H Q h => ?_
  obtain ⟨δ, B, Z, H0, pre, post⟩ := h
  refine rdX_use pre (PostG.bind post) fun ra B1 H1 e1 a1 h1 v hv => ?_
  refine ⟨δ, B1, Z, H0, pre.at e1 a1, (PostG.bind h1).mono fun rl B2 H2 e2 a2 h2 => ?_⟩
  refine ⟨δ, B2, Z, H0, (pre.at e1 a1).at e2 a2, (PostG.bind h2).mono fun rh B3 H3 e3 a3 h3 => ?_⟩
  obtain ⟨rz, e, h4⟩ := PostG.opt (PostG.bind h3)
  exact ⟨Z, H0, H, ra, rz, ((hv.ext e2).ext e3).back pre.ext, (e1.trans e2).trans e3, a3.there, e, fun w H4 sm vr => h4 H4 (.of_same sm) (a3.same sm) H4 (.refl _ _) (a3.same sm) w vr⟩
/-- a op b op c -/
theorem cmpF_some {o : O2} {x y : RV} {b : Bool} (e : cmpF o x y = some b) : ∃ f, o2F o x y = some ⟨.bl b, f⟩ := by
  unfold cmpF at e
  split at e
  · rename_i c f q
    cases e
    exact ⟨f, q⟩
  · cases e
theorem ch_post {o q : O2} {a b c : E} {δ : Env} {B : Bag} {σ : L2.St} {H : Hp} {k : RV → Bag → Hp → Prop} {t : Bool} (h : PostG p W σ H (ev C (.ch o q a b c) t δ B) k) :
    PostG p W σ H (ev C a false δ B) fun x B1 H1 => PostG p W σ H1 (ev C b false δ B1) fun y B2 H2 => ∃ b1, cmpF o x y = some b1 ∧ if b1 = true then PostG p W σ H2 (ev C c false δ B2) fun z B3 H3 => ∃ b2, cmpF q y z = some b2 ∧ ∀ H', Ext p.g H3 H' → Amb p B3 H' → k ⟨.bl b2, .D⟩ B3 H'
      else ∀ H', Ext p.g H2 H' → Amb p B2 H' → k ⟨.bl false, .D⟩ B2 H' := by
  have h : PostG p W σ H ((ev C a false δ B).bind fun x B => (ev C b false δ B).bind fun y B => match cmpF o x y with
    | some true => (ev C c false δ B).bind fun z B => bRes (cmpF q y z) B
    | some false => .ok ⟨.bl false, .D⟩ B
    | none => .st) k := by cases t <;> exact h
  refine (PostG.bind h).mono fun x B1 H1 e1 a1 h1 => (PostG.bind h1).mono fun y B2 H2 e2 a2 h2 => ?_
  cases c1 : cmpF o x y with
  | none => rw [c1] at h2; exact h2.elim
  | some b1 =>
    rw [c1] at h2
    refine ⟨b1, rfl, ?_⟩
    cases b1 with
    | true =>
      rw [if_pos rfl]
      exact (PostG.bind h2).mono fun z B3 H3 e3 a3 h3 => PostG.bres h3
    | false => rw [if_neg Bool.false_ne_true]; exact h2
theorem e_ch {a b c e : Expr} {a' b' c' : E} {o q : O2} (ha : PE X a (rdE p C W a')) (hb : PE X b (rdE p C W b')) (hc : PE X c (rdE p C W c'))
    (pe : ∀ ta tb tc, PE X a ta → PE X b tb → PE X c tc → PE X e (tChain (rD2 p (o2F o)) (rD2 p (o2F q)) ta tb tc)) : PE X e (rdE p C W (.ch o q a' b' c')) := by
  refine (pe _ _ _ ha hb hc).weak fun σ H Q h => ?_
  obtain ⟨δ, B, Z, H0, pre, post⟩ := h
  refine rdX_use pre (ch_post post) fun x B1 H1 e1 a1 h1 v hv => rdX_use (pre.at e1 a1) h1 fun y B2 H2 e2 a2 h2 u hu => ?_
  obtain ⟨b1, c1, h3⟩ := h2
  obtain ⟨f, d1⟩ := cmpF_some c1
  refine ⟨Z, H0, H, x, y, _, (hv.ext e2).back pre.ext, hu.back (pre.ext.trans e1), e1.trans e2, a2.there, d1, fun w H3 sm vr => ?_⟩
  obtain ⟨fp, rf⟩ := vr.rf
  cases rf.bl_
  refine ⟨b1, rfl, ?_⟩
  cases b1 with
  | false =>
    rw [if_neg Bool.false_ne_true] at h3 ⊢
    exact h3 H3 (.of_same sm) (a2.same sm) _ (.plain (.bl _))
  | true =>
    rw [if_pos rfl] at h3 ⊢
    have es := Ext.of_same (g := p.g) sm
    refine rdX_use (((pre.at e1 a1).at e2 a2).at es (a2.same sm)) (h3.ext es) fun z B4 H4 e4 a4 h4 w hw => ?_
    obtain ⟨b2, c2, h5⟩ := h4
    obtain ⟨f2, d2⟩ := cmpF_some c2
    refine ⟨Z, H0, H, y, z, _, ((hu.ext es).ext e4).back (pre.ext.trans e1), hw.back (((pre.ext.trans e1).trans e2).trans es), ((e1.trans e2).trans es).trans e4, a4.there, d2, fun w2 H5 sm5 vr5 => ?_⟩
    obtain ⟨fp5, rf5⟩ := vr5.rf
    cases rf5.bl_
    exact h5 H5 (.of_same sm5) (a4.same sm5) _ (.plain (.bl _))
theorem t_ch {a b c e : Expr} {a' b' c' : E} {o q : O2} (ha : PE X a (rdE p C W a')) (hb : PE X b (rdE p C W b')) (hc : PE X c (rdE p C W c'))
    (pe : ∀ ta tb tc, PE X a ta → PE X b tb → PE X c tc → PT X e (tTest (tChain (rD2 p (o2F o)) (rD2 p (o2F q)) ta tb tc))) : PT X e (rdT p C W (.ch o q a' b' c')) := by
  refine (pe _ _ _ ha hb hc).weak fun σ H Q h => ?_
  obtain ⟨δ, B, Z, H0, pre, post⟩ := h
  refine rdX_use pre (ch_post post) fun x B1 H1 e1 a1 h1 v hv => rdX_use (pre.at e1 a1) h1 fun y B2 H2 e2 a2 h2 u hu => ?_
  obtain ⟨b1, c1, h3⟩ := h2
  obtain ⟨f, d1⟩ := cmpF_some c1
  refine ⟨Z, H0, H, x, y, _, (hv.ext e2).back pre.ext, hu.back (pre.ext.trans e1), e1.trans e2, a2.there, d1, fun w H3 sm vr => ?_⟩
  obtain ⟨fp, rf⟩ := vr.rf
  cases rf.bl_
  refine ⟨b1, rfl, ?_⟩
  cases b1 with
  | false =>
    rw [if_neg Bool.false_ne_true] at h3 ⊢
    obtain ⟨b4, e4, q4⟩ := h3 H3 (.of_same sm) (a2.same sm)
    cases e4
    exact ⟨false, rfl, q4⟩
  | true =>
    rw [if_pos rfl] at h3 ⊢
    have es := Ext.of_same (g := p.g) sm
    refine rdX_use (((pre.at e1 a1).at e2 a2).at es (a2.same sm)) (h3.ext es) fun z B4 H4 e4 a4 h4 w hw => ?_
    obtain ⟨b2, c2, h5⟩ := h4
    obtain ⟨f2, d2⟩ := cmpF_some c2
    refine ⟨Z, H0, H, y, z, _, ((hu.ext es).ext e4).back (pre.ext.trans e1), hw.back (((pre.ext.trans e1).trans e2).trans es), ((e1.trans e2).trans es).trans e4, a4.there, d2, fun w2 H5 sm5 vr5 => ?_⟩
    obtain ⟨fp5, rf5⟩ := vr5.rf
    cases rf5.bl_
    obtain ⟨b6, e6, q6⟩ := h5 H5 (.of_same sm5) (a4.same sm5)
    cases e6
    exact ⟨b2, rfl, q6⟩
end
end Wh

set_option maxHeartbeats 4000000
/-! Wh, part Lm: what a def makes of a lambda that it calls. -/
namespace Wh
open PySem PySem.Spec PyProof.Rows L2 LamX

/-- nothing known is forgotten -/
def Kn (H H' : Hp) : Prop := ∀ b o, H b = some o → ∃ u, H' b = some u
theorem Ext.of_lam {g : Addr} {H H' : Hp} (e : ExtN H H') (k : Kn H H') : Ext g H H' := fun a o h => ⟨k a o h, fun _ t => e a o h t⟩
section
variable {X : Cx} {pins : List (Addr × Obj)} {σ : L2.St} {H : Hp} {s : Shared}
/-- the new function -/
abbrev lamO (X : Cx) (ps : Arguments) (b : Expr) (sc : Scope) (pm : Value) (cd : Addr) (tv : Value) : Obj := PySem.W.kla_obj "<lambda>" (X.env.qual ++ "<lambda>") ps b sc (cloFrom X.env.cells sc.names []) pm cd tv
abbrev lamN (X : Cx) : Str := X.env.qual ++ "<lambda>"
/-- what is known of it -/
structure Made (X : Cx) (pins : List (Addr × Obj)) (σ : L2.St) (T : List (Addr × Str)) (ps : Arguments) (b : Expr) (sc : Scope) (H H' : Hp) (t : Shared) (f cd : Addr) : Prop where
  inv : Inv X pins σ H' t
  ext : ExtN H H'
  kn : Kn H H'
  tabs : Tabs T H'
  obj : ∃ pm tv, t.heap.get? f = some (lamO X ps b sc pm cd tv)
  free : H' f = none
  nofr : f ∉ frs X.stack
  code : H' cd = some (CodeO cd (lamN X))
theorem lam_mk {T : List (Addr × Str)} {c0 tb : Addr} {as : Arguments} {b : Expr} {sc : Scope} {at_ : Pos} {Er Qr : Value → Shared → Prop} (I : Inv X pins σ H s) (B : TabB X.base X.mg c0 tb) (hc0 : X.env.code = .ref c0) (mem : (tb, lamN X) ∈ T) (one : ∀ q ∈ T, q.1 = tb → q.2 = lamN X)
    (ht : Tabs T H) (nodef : defaultsOf as X.env = ([], [])) (fr : ∀ y ∈ sc.names, y.2 = .free → ∃ c, X.env.cells.lookup y.1 = some c) (fin : ∀ H' t f cd, Made X pins σ T as b sc H H' t f cd → Qr (.ref f) t) : wpAny (model X.prog X.w) X.A (eval (.Lambda as b sc at_) X.env) Qr Er s := by
  obtain ⟨rows, htb, trip, names⟩ := ht _ mem
  have here : s.heap.get? tb = some { cls := .none, data := .fields rows } := I.hok tb _ htb
  have blt : s.heap.BuiltinsAt X.mg tb := B.bm.keeps I.bk
  have notFr : ∀ x, s.heap.objs.size ≤ x → x ∉ frs X.stack := fun x hx hm => by
    rcases List.mem_cons.mp (I.stkSub _ hm) with q | q
    · have lt := I.lt
      rw [← q] at lt
      exact absurd lt (Nat.not_lt.mpr hx)
    · exact I.nofs hx q
  refine PySem.W.kla_eval nodef ?_
  rcases hq : codeAmong at_ rows.toList with _ | cv
  · refine PySem.W.kla_makeFunction (P := tb) (c := c0) (ps := rows) (mg := X.mg) (closure_ok fr) I.ok.glob (I.mod.glob.keeps I.bk) hc0 (B.code.keeps I.bk) here trip hq B.gP blt ?_
    intro cd tv hp tk but lo hi rec tab
    obtain ⟨c9, oc, us, tq, e9, g1, g2, g3⟩ := rec
    cases e9
    have le : s.heap.objs.size ≤ hp.objs.size := by omega
    have newC : H cd = none := I.hok.fresh lo
    let more : Array Value := #[rawInt at_.line, rawInt at_.col, .ref cd]
    let H' : Hp := upd (upd H tb (.tbl (rows ++ more))) cd (CodeO cd (lamN X))
    have J := inv_table (q := lamN X) (more := more) (t' := tk) (h' := hp.push (lamO X as b sc ((X.mg "__name__").getD .none) cd tv)) I htb (fun x o ne e => Heap.get?_push_of_some _ (but x o ne e)) (Heap.get?_push_of_some _ tab) lo ⟨oc, us, tq, Heap.get?_push_of_some _ g1, g2, g3⟩
    have tbne : tb ≠ cd := ne_of_none htb newC
    have eN : ExtN H H' := fun x o e nt => by
      have n1 : x ≠ cd := ne_of_none e newC
      have n2 : x ≠ tb := fun z => nt rows (Option.some.inj ((z ▸ e : H tb = some o).symm.trans htb))
      show upd (upd H tb _) cd _ x = _
      rw [upd_ne n1, upd_ne n2]; exact e
    have kn : Kn H H' := fun x o e => by
      have n1 : x ≠ cd := ne_of_none e newC
      by_cases n2 : x = tb
      · subst n2; exact ⟨_, (upd_ne n1).trans upd_same⟩
      · exact ⟨o, by show upd (upd H tb _) cd _ x = _; rw [upd_ne n1, upd_ne n2]; exact e⟩
    have all : (rows ++ more).toList = rows.toList ++ [rawInt at_.line, rawInt at_.col, .ref cd] := by simp [more]
    have tabs : Tabs T H' := by
      intro q hqT
      by_cases e1 : q.1 = tb
      · refine ⟨rows ++ more, ?_, ?_, ?_⟩
        · rw [e1]; exact (upd_ne tbne).trans upd_same
        · rw [all]; exact PySem.TriplesOk_snoc _ _ _ _ trip
        · intro p1 v1 h1
          rw [all] at h1
          rw [one q hqT e1]
          rcases among_app _ trip h1 with z | z
          · obtain ⟨c1, z1, z2⟩ := names p1 v1 z
            exact ⟨c1, z1, eN _ _ z2 codeO_ne⟩
          · exact ⟨cd, z, upd_same⟩
      · obtain ⟨r1, k1, k2, k3⟩ := ht q hqT
        refine ⟨r1, ?_, k2, fun p1 v1 h1 => ?_⟩
        · exact ((upd_ne (ne_of_none k1 newC)).trans (upd_ne e1)).trans k1
        · obtain ⟨c1, z1, z2⟩ := k3 p1 v1 h1
          exact ⟨c1, z1, eN _ _ z2 codeO_ne⟩
    have nf : H' hp.objs.size = none := by
      have n1 : hp.objs.size ≠ cd := by omega
      have n2 : hp.objs.size ≠ tb := Nat.ne_of_gt (Nat.lt_of_lt_of_le (Heap.lt_size here) le)
      exact ((upd_ne n1).trans (upd_ne n2)).trans (I.hok.fresh le)
    exact fin H' _ hp.objs.size cd ⟨J, eN, kn, tabs, ⟨_, tv, Heap.get?_push_size _ rfl⟩, nf, notFr _ le, upd_same⟩
  · obtain ⟨cd, rfl, hcd⟩ := names at_ cv hq
    refine PySem.W.kla_makeFunctionHit (P := tb) (c := c0) (ps := rows) (mg := X.mg) (closure_ok fr) I.ok.glob (I.mod.glob.keeps I.bk) hc0 (B.code.keeps I.bk) here trip hq blt ?_
    intro tv hp tk kp le
    have J : Inv X pins σ H { s with heap := hp.push (lamO X as b sc ((X.mg "__name__").getD .none) cd tv), toks := tk } := I.kept fun x o e => Heap.get?_push_of_some _ (kp x o e)
    exact fin H _ hp.objs.size cd ⟨J, ExtN.refl H, fun _ o e => ⟨o, e⟩, ht, ⟨_, tv, Heap.get?_push_size _ rfl⟩, I.hok.fresh le, notFr _ le, hcd⟩
end

/-- the def at g gets a lambda and calls it: TT tells what comes of it -/
structure Taker (X : Cx) (x : Str) (g : Addr) (TT : (XK → Hp → VK → Prop) → Hp → VK → Prop) : Prop where
  mg : X.mg x = some (.ref g)
  keep : PySem.W.keepIn X.K (.ref g) = true
  def_ : ∃ (a : Str) (Ng : List Str) (qg : Str) (pg : Arguments) (bg : List Stmt) (sg : Scope) (dV kV doc pm cdv ct oc : Value) (an od : Option Addr) (osl : Array (Option Value)),
    X.K.lookup g = some ⟨oc, od, .func (PySem.W.fnOf x qg pg bg sg dV kV doc pm an cdv ct), osl⟩ ∧ PySem.W.codeIn X.K cdv qg = true ∧ L2.Binds X.K (PySem.W.fnOf x qg pg bg sg dV kV doc pm an cdv ct) [a] [] ∧ FnScope Ng [a] sg ∧ Ng[0]? = some a ∧ Vis sg a ∧ plainN a = true ∧
    ∀ q, GivesTo X Ng qg sg g cdv bg a q TT
/-- what a call with a lambda reads -/
def tLamK (T : List (Addr × Str)) (TT : (XK → Hp → VK → Prop) → Hp → VK → Prop) (t : XK → TE) : TE := fun σ H Q => Tabs T H ∧ ∀ H1, ExtN H H1 → Kn H H1 → Tabs T H1 → TT (fun E H' Q' => t E σ H' Q') H1 Q
section
variable {X : Cx}
theorem pe_lamc {T : List (Addr × Str)} {TT : (XK → Hp → VK → Prop) → Hp → VK → Prop} {x : Str} {g c0 tb : Addr} {k : Nat} {as : Arguments} {b : Expr} {sc : Scope} {t : XK → TE} {p1 p2 p3 : Pos} (hg : Gl X x) (hd : (x == ("__debug__" : Str)) = false) (tk : Taker X x g TT) (B : TabB X.base X.mg c0 tb) (hc0 : X.env.code = .ref c0)
    (mem : (tb, lamN X) ∈ T) (one : ∀ q ∈ T, q.1 = tb → q.2 = lamN X) (room : Room (k + 2) X.A) (L : LamS X.env.scope sc) (nodef : defaultsOf as X.env = ([], [])) (nob : ∀ (q : Str) (cl : List (Str × Addr)) (pm cv tv : Value), bindArgs (PySem.W.kla_fn "<lambda>" q as b sc cl pm cv tv) ⟨[], []⟩ = pure [])
    (body : ∀ (A : Around) (outer : List PySem.Env) (s : Shared) (H : Hp) (E : XK) (f c' : Addr), Room k (A.deeper (lamEnv X sc s.heap.objs.size f c')) → PE (lamCx X A outer s H E sc f c') b (t E)) : PE X (.Call (.Name x p1) [.Lambda as b sc p2] [] p3) (tLamK T TT t) := by
  refine ⟨fun pins s σ H Q I hh => ?_⟩
  obtain ⟨ht, rest⟩ := hh
  obtain ⟨a, Ng, qg, pg, bg, sg, dV, kV, doc, pm, cdv, ct, oc, an, od, osl, lk, hcd, bnd, Sg, n0, vis, pln, gives⟩ := tk.def_
  obtain ⟨pd, pc⟩ := plainN_d pln
  refine wpAny_Call_Name_kw (ld_glob I hg tk.mg ?_ hd)
  refine PySem.W.callWith_K (h₀ := X.base) I.ok.mod.kin tk.keep ?_ (by rfl) (by rfl)
  show wpAny _ _ (spliced ((false, eval (.Lambda as b sc p2) X.env) :: backTo p3 (starEach [] X.env))) _ _ s
  refine Calls.spliced_cons (lam_mk I B hc0 mem one ht nodef (L.has I.ok) fun H1 s1 f cd M => Calls.spliced_nil ⟨M.inv.kIn, ?_⟩)
  obtain ⟨pm', tv, hob⟩ := M.obj
  have run : codeAny (model X.prog X.w) X.A (.call (.ref g) ⟨[.ref f], []⟩) (CR C8.CX0 X.stack X.prog X.w H1 s1 Q C8.E0) s1 := by
    refine run_ofS (ps := [a]) (N := Ng) (vs := [.ref f]) (us := [.ref f]) lk hcd Sg room M.inv.env0 (bnd s1 [.ref f] M.inv.kIn rfl) (.cons rfl .nil) rfl fun hr => ?_
    obtain ⟨t1, run1, told1⟩ := gives (lamN X) f cd s1 H1 Q (fun E H' Q' => t E σ H' Q')
      (fun W pn xe E q1 q2 take up => pe_act (i := 0) M.inv L hob M.free M.nofr (nob _ _ _ _ _) take up hr (fun A outer s2 H2 hr2 => body A outer s2 H2 E f cd hr2) n0 vis pd pc) M.code (rest H1 M.ext M.kn M.tabs)
    exact ⟨t1, run1.nox, told1⟩
  refine wpAny_call (codeAny_mono run fun r s2 hq => ?_)
  match r, hq with
  | .ok (.ret u), hq => exact M.inv.after hq
  | .ok .next, hq => exact hq.elim
  | .ok .brk, hq => exact hq.elim
  | .ok .cont, hq => exact hq.elim
  | .error e, hq => exact (show False from hq).elim
/-- what `_law_heard` makes of it: ("told", its value), or ("nothing",) -/
def TTw (K : PySem.W.Frag) (CS : Addr) (w1 w2 : Str) : (XK → Hp → VK → Prop) → Hp → VK → Prop := fun tl H Q =>
  tl (fun cls _ H' => PySem.W.exmOne K cls (.ref CS) = some true ∧ ∀ q, H' q = none → nwT q [.str w2] H' Q) H (fun v H1 => [V.str w1, v].length ≤ sizeLine ∧ ∀ q, H1 q = none → nwT q [.str w1, v] H1 Q)
theorem told_w {Ng : List Str} {qg a e q w1 w2 : Str} {sg : Scope} {g CS : Addr} {cdg : Value} {j1 j2 m1 m2 : Nat} {p1 p2 p3 p4 p5 p6 p7 p8 p9 p10 p11 : Pos} (hge : sg.names.lookup e = some .globalImplicit) (hme : X.mg e = some (.ref CS)) (hde : (e == ("__debug__" : Str)) = false) :
    GivesTo X Ng qg sg g cdg [.Try [.Return (some (.Tuple [.Constant (.str w1) j1 p9, .Call (.Name a p1) [] [] p2] m1 p10)) p3] [.ExceptHandler (some (.Name e p4)) none [.Return (some (.Tuple [.Constant (.str w2) j2 p5] m2 p11)) p6] p7] [] [] p8] a q (TTw X.K CS w1 w2) := by
  intro f cd s H Q tl act hcd hh
  let Y : Cx := (cxOf C8.CX0 X.prog X.w X.K X.mg X.base Ng qg sg g cdg X.A X.stack s H C8.E0).nox
  have gl : Gl Y e := hge
  have one : ∀ (Z : Cx), PE Z (.Tuple [.Constant (.str w2) j2 p5] m2 p11) (tTupF (fun σ H Q => Q [.str w2] H)) := fun Z => (pe_tupF (pa_cons pe_str pa_nil)).weak fun σ H Q h => h
  refine ⟨_, pss_one (ps_try_only (X := Y) (c := .ref CS) (tb := fun W D σ H => ∃ Ec : XK, (∀ cls d σ' H', Ec cls d H' → W cls d σ' H') ∧ σ[0]? = some (some (.ref f)) ∧ H cd = some (CodeO cd q) ∧ tl Ec H (fun v H1 => [V.str w1, v].length ≤ sizeLine ∧ ∀ q, H1 q = none → nwT q [.str w1, v] H1 D.rt))
    rfl rfl ⟨gl, hde, .inl hme⟩ LamX.takes0 (fun W pn xe take _ => ⟨fun pins s1 σ H1 D I hh => ?_⟩) (fun a oe cls d pn _ _ => pss_one (ps_ret (one _)))), ?_⟩
  · obtain ⟨Ec, up, k1, k2, k3⟩ := hh
    have two : PE (Y.tr pn xe) (.Tuple [.Constant (.str w1) j1 p9, .Call (.Name a p1) [] [] p2] m1 p10) _ := pe_tupF (pa_cons pe_str (pa_cons (act W pn xe Ec p1 p2 take up) pa_nil))
    refine (pss_one (ps_ret (pos := p3) two)).run pins s1 σ H1 D I ⟨k1, k2, ?_⟩
    exact k3
  · refine ⟨_, fun cls d σ' H' hx => ?_, rfl, hcd, hh⟩
    exact ⟨true, hx.1, fun _ b hb => ⟨by rw [sizeLine_eq]; show 1 ≤ 16777216; omega, hx.2⟩, fun z => by cases z⟩
end
/-! ### as an expression of the frame -/
theorem told_split {a e : Str} {l : List Stmt} (h : toldB a e l = true) : ∃ (j1 j2 m1 m2 : Nat) (p1 p2 p3 p4 p5 p6 p7 p8 p9 p10 p11 : Pos), l = [.Try [.Return (some (.Tuple [.Constant (.str told) j1 p9, .Call (.Name a p1) [] [] p2] m1 p10)) p3] [.ExceptHandler (some (.Name e p4)) none [.Return (some (.Tuple [.Constant (.str nothing_) j2 p5] m2 p11)) p6] p7] [] [] p8] := by
  unfold toldB at h
  split at h
  · simp only [Bool.and_eq_true, decide_eq_true_eq] at h
    obtain ⟨⟨⟨rfl, rfl⟩, rfl⟩, rfl⟩ := h
    exact ⟨_, _, _, _, _, _, _, _, _, _, _, _, _, _, _, rfl⟩
  · cases h
/-- no parameters -/
def noArg : Arguments := ⟨[], [], none, [], [], none, []⟩
section
variable {p : Pl} {Γ : GMs} {N : List Str} {C : Cs} {k : Nat} {W : WX} {sc : Scope} {fo : Str → Bool} {X : Cx}
theorem HeardD.taker {f c : Nat} {x : Str} (h : HeardD p X.mg f x c) (hK : p.K = X.K) : Taker X x (p.F f) (TTw X.K (p.C c) told nothing_) := by
  obtain ⟨h1, h2, h3, h4, a, e, Ng, qg, pg, bg, sg, dV, kV, doc, pm, cdv, ct, oc, an, od, osl, k1, k2, k3, k4, k5, k6, k7, k8, k9, k10, k11⟩ := h
  obtain ⟨j1, j2, m1, m2, p1, p2, p3, p4, p5, p6, p7, p8, p9, p10, p11, rfl⟩ := told_split k8
  rw [hK] at h3 k1 k2 k3
  exact ⟨h2, h3, a, Ng, qg, pg, _, sg, dV, kV, doc, pm, cdv, ct, oc, an, od, osl, k1, k2, k3, k4, k5, k6, k7, fun q => told_w k9 k11 (plainN_d k10).1⟩
/-- the lambda's own context -/
theorem XOk.lamX (O : XOk p Γ N C k W sc fo X) {scope : Scope} (L : LamS X.env.scope scope) (A : Around) (outer : List PySem.Env) (s : Shared) (H : Hp) (E : XK) (f c' : Addr) (hr : Room (3 * k) (A.deeper (lamEnv X scope s.heap.objs.size f c'))) :
    XOk p { Γ with gd := false, lm := false, tb := false } N C k (fun cls d _ H => E cls d H) scope (fun _ => false) (lamCx X A outer s H E scope f c') where
  K := O.K
  N := O.N
  nd := O.nd
  calm := rfl
  room := hr
  room2 := fun z => by cases z
  guards := fun z => by cases z
  scope := rfl
  fnx := fun x z => by cases z
  kind := L.kind
  pass := passes_of (X := lamCx X A outer s H E scope f c') rfl
  takes := takes_of (X := lamCx X A outer s H E scope f c') rfl rfl rfl rfl
  calls := O.calls
  gl := O.gl.flag _ _ _
  ndN := O.ndN
  lam := fun z => by cases z
theorem e_heard (O : XOk p Γ N C k W sc fo X) {f c : Nat} {x : Str} {scope : Scope} {b : Expr} {e' : E} {p1 p2 p3 : Pos} (h : HeardD p X.mg f x c) (t1 : Γ.tb = true) (t2 : Γ.lm = true) (hg : Gl X x) (L : LamS X.env.scope scope)
    (body : ∀ (W' : WX) (X' : Cx), XOk p { Γ with gd := false, lm := false, tb := false } N C k W' scope (fun _ => false) X' → PE X' b (rdE p C W' e')) : PE X (.Call (.Name x p1) [.Lambda noArg b scope p2] [] p3) (rdE p C W (.heard f c e')) := by
  obtain ⟨c0, tb, B, hc0, mem, one⟩ := O.lam t1
  refine (pe_lamc hg (plainN_d h.pl).1 (h.taker O.K) B hc0 mem one (O.room2 t2) L rfl (fun q cl pm cv tv => by rfl) fun A outer s H E f c' hr => body _ _ (O.lamX L A outer s H E f c' hr)).weak fun σ H Q hh => ?_
  obtain ⟨δ, Bg, Z, H0, pre, post⟩ := hh
  refine ⟨pre.amb.tabs, fun H1 eN kn tb1 => ?_⟩
  have e1 : Ext p.g H H1 := Ext.of_lam eN kn
  have a1 : Amb p Bg H1 := ⟨⟨eN _ _ pre.amb.bag.root (fun _ z => by cases z), eN _ _ pre.amb.bag.row (fun _ z => by cases z), pre.amb.bag.ne, pre.amb.bag.big, pre.amb.bag.seed, pre.amb.bag.cells⟩, tb1⟩
  refine ⟨δ, Bg, Z, H0, pre.at e1 a1, ?_⟩
  have post : PostG p W σ H (match ev C e' false δ Bg with
    | .ok r B => (opt (flagU [⟨.str told, .D⟩, r]) B).bind fun r B => asTest false r B
    | .exc x B => if x.c = c then asTest false ⟨.tup [.str nothing_], .D⟩ B else .st
    | .st => .st) (fun r _ H' => ∀ v, VR p Z H0 H r v H' → Q v H') := post
  have hK := O.K
  revert post
  cases ev C e' false δ Bg with
  | st => exact fun z => z.elim
  | ok r B2 =>
    intro post H2 e2 a2 v hv
    obtain ⟨t, ht, h3⟩ := PostG.opt (PostG.bind post)
    refine ⟨by rw [sizeLine_eq]; show 2 ≤ 16777216; omega, fun q hq ob hob => ?_⟩
    have sm := Same.new (o := .frz ob (.tup [V.str told, v])) hq
    have eH := (e1.trans e2).trans (.of_same sm)
    refine h3 _ eH (a2.same sm) _ (.refl _ _) (a2.same sm) _ ?_
    have vl : VRL p Z H0 H1 [⟨.str told, .D⟩, r] [V.str told, v] H2 := ⟨H1, .refl _ _, .plain (.str _), e2, H2, e2, hv, .refl _ _, trivial⟩
    exact (flagU_ok (pre.ext.trans e1) vl hq a2.there hob ht).back e1
  | exc x B2 =>
    intro post cls dx H2 e2 a2 hx
    obtain ⟨hx, _, _⟩ := hx
    dsimp only at post
    split at post
    · rename_i hc
      rw [hc] at hx
      subst hx
      refine ⟨hK ▸ h.exm, fun q hq ob hob => ?_⟩
      have sm := Same.new (o := .frz ob (.tup [V.str nothing_])) hq
      have eH := (e1.trans e2).trans (.of_same sm)
      have nq : q ≠ p.g := fun z => by
        have := a2.bag.root
        rw [← z, hq] at this; cases this
      exact post _ eH (a2.same sm) _ (.plain (.tup ⟨ob, upd_same, hob⟩ nq (RfL.cons (.str _) .nil)))
    · exact post.elim
end
end Wh

set_option maxHeartbeats 4000000
/-! Wh, part I: what loops and comprehensions walk. -/
namespace Wh
open PySem PySem.Spec PyProof.Rows L2

/-! ### enumerate of anything that begins -/
theorem enum_new1 {v : Value} {o : Obj} {P : Heap → Prop} (B : Begins v o P) :
    Meets (Builtin.«enumerate.__new__» ⟨[.type "enumerate", v], []⟩) (fun _ R s => P s.heap ∧ R (.ok (.ret (.ref (s.heap.push o).objs.size)))
      { s with heap := (s.heap.push o).push { cls := .type "enumerate", data := .fields #[.none, .bool false, .ref s.heap.objs.size, rawInt 0, .none, .none] } }) :=
  .of_wp fun prog w A R s hh => by
    obtain ⟨hp, g, d, tk, os⟩ := s
    obtain ⟨p1, hr⟩ := hh
    have su := sub_enumerate
    have it1 : ∀ {A' : Around} {E : Value → Shared → Prop} {Q : Value → Shared → Prop}, Q (.ref hp.objs.size) ⟨hp.push o, g, d, tk, os⟩ → wpAny (model prog w) A' (pyIter v) Q E ⟨hp, g, d, tk, os⟩ := fun q => B.iter prog w _ _ ⟨hp, g, d, tk, os⟩ _ p1 q
    wp_walk using it1
    refine wpAny_stack_any fun _ => wpAny_pure ?_
    split
    · rename_i c _ _ _ _ _
      cases (c == Value.type "enumerate") <;> (wp_walk using it1; exact ⟨_, rfl, hr⟩)
    · wp_walk using it1
      exact ⟨_, rfl, hr⟩
theorem enum_call1 {prog : Program} {w : World} {A : Around} {E : Value → Shared → Prop} {s : Shared} {v : Value} {o : Obj} {P : Heap → Prop} {Q : Value → Shared → Prop} (B : Begins v o P) (p1 : P s.heap)
    (h : ∀ h', IsEnum h' (s.heap.objs.size + 1) s.heap.objs.size 0 .none → h'.get? s.heap.objs.size = some o → (∀ b o, s.heap.get? b = some o → h'.get? b = some o) → Q (.ref (s.heap.objs.size + 1)) { s with heap := h' }) :
    wpAny (model prog w) A (call (.type "enumerate") [v]) Q E s := by
  have sz1 : (s.heap.push o).objs.size = s.heap.objs.size + 1 := Heap.size_push ..
  have ie : IsEnum ((s.heap.push o).push { cls := .type "enumerate", data := .fields #[.none, .bool false, .ref s.heap.objs.size, rawInt 0, .none, .none] }) (s.heap.objs.size + 1) s.heap.objs.size 0 .none := by
    rw [← sz1]
    exact Heap.get?_push_size _ rfl
  refine callType_new F.called_enumerate (by decide) (F.typeCall_enumerate_1 _) (F.newCall_enumerate_1 _) (fun obj => F.args_object_init_2 obj _) F.entry_enumerate_new (enum_new1 B) ⟨p1, ?_⟩
  rw [sz1]
  exact ⟨⟨_, ie, rfl⟩, h _ ie (Heap.get?_push_of_some _ (Heap.get?_push_size _ B.free)) fun b ob q => Heap.get?_push_of_some _ (Heap.get?_push_of_some _ q)⟩
/-- (0, x0), (1, x1), ..: the tuple at a, as it stands at each turn -/
def IteT (K : PySem.W.Frag) (a : Addr) : It :=
  ⟨fun i H => ∃ (xs : List V) (x : V), SqT K H a xs ∧ xs[i]? = some x, fun i H v H' => ∃ T x, v = .ref T ∧ H T = none ∧ H' = upd H T (.tup [.int (i : Nat), x]) ∧ ∀ xs, SqT K H a xs → xs[i]? = some x, fun i H => ∃ xs : List V, SqT K H a xs ∧ xs.length = i⟩
theorem turn_enumT {P : Program} {w : World} {K : PySem.W.Frag} {elts : List Expr} {kk : Nat} {tpos : Pos} (a e it : Addr) (hai : a ≠ it) (hae : a ≠ e) :
    Turn P w K (.Tuple elts kk tpos) (IteT K a) [e, it] e (fun i h => (∃ old, IsEnum h e it ((i : Nat) : Int) old) ∧ h.IsTupleIter it a i ∧ e ≠ it) where
  mem := by simp
  obj := fun i h st b hb => by
    obtain ⟨⟨old, he⟩, ⟨o, ho, hc, hd⟩, _⟩ := st
    simp only [List.mem_cons, List.not_mem_nil, or_false] at hb
    rcases hb with rfl | rfl
    · exact ⟨_, he, fun v q => nomatch q⟩
    · exact ⟨o, ho, fun v q => by rw [hd] at q; cases q⟩
  keep := fun i h h' st k => ⟨let ⟨old, he⟩ := st.1; ⟨old, k e (by simp) _ he⟩, st.2.1.at fun o q => k it (by simp) o q, st.2.2⟩
  item := by
    intro X hP hw hK hc i pins s σ H E I hf st hg
    subst hP hw hK
    obtain ⟨⟨old, he⟩, hit, hne⟩ := st
    obtain ⟨xs, x, hq, hx⟩ := hg
    obtain ⟨its, rv, pt, hz⟩ := I.tuple hq
    have hlen := rv.length
    have hi : i < its.toArray.size := by
      have := (List.getElem?_eq_some_iff.mp hx).1
      simp only [List.size_toArray]; omega
    have G := GoesN.enumFrom (prog := X.prog) (w := X.w) (A := X.A) (elts := elts) (x1 := kk) (pos := tpos) 0 (Draws.tuple (A := X.A.in1) (I.ok.hd hc) it a hai its.toArray) e hne (by simp [hne, hae.symm]) (by simp)
    have st0 : (∃ old, IsEnum s.heap e it (0 + (i : Int)) old) ∧ s.heap.IsTupleIter it a i ∧ s.heap.IsTuple a its.toArray := ⟨⟨old, by rw [Int.zero_add]; exact he⟩, hit, pt⟩
    refine G.goes i s _ E hi st0 fun v h' tk hY st' hk _ => ?_
    obtain ⟨T, t, y, rfl, hT, hy, tt⟩ := hY
    obtain ⟨u, hu, ru⟩ := rv.get hx
    have ey : y = u := by
      have h1 : its[i]? = some y := by simpa using hy
      rw [hu] at h1
      exact (Option.some.inj h1).symm
    subst ey
    have fresh : ∀ b ∈ [e, it], b < s.heap.objs.size := fun b hb => by
      simp only [List.mem_cons, List.not_mem_nil, or_false] at hb
      rcases hb with rfl | rfl
      · exact Heap.lt_size he
      · obtain ⟨_, q, _⟩ := hit; exact Heap.lt_size q
    have nw : ObjOk X.prog X.w (upd H T (.tup [.int (i : Nat), x])) h' T (.tup [.int (i : Nat), x]) :=
      ⟨by show 2 ≤ sizeLine; decide, [.int (0 + (i : Int)) t, y], .cons ⟨t, by rw [Int.zero_add]⟩ (.cons ru .nil), tt⟩
    have I1 : Inv X pins σ (upd H T (.tup [.int (i : Nat), x])) { s with heap := h', toks := tk } := I.turnedNew (ch := [e, it]) hk hf hT nw
    refine ⟨.ref T, _, I1, rfl, ⟨T, x, rfl, I.hok.fresh hT, rfl, fun ys hy' => by rw [I.tuple_inj hy' hq]; exact hx⟩, ⟨?_, st'.2.1, hne⟩, fun b hb => ?_⟩
    · obtain ⟨o2, h2⟩ := st'.1
      exact ⟨o2, by rw [Int.zero_add] at h2; exact h2⟩
    · have hb' := fresh b hb
      rw [upd_ne (Nat.ne_of_lt (Nat.lt_of_lt_of_le hb' hT))]
      exact (hf b hb).1
  done := by
    intro X hP hw hK hc i pins s σ H E I hf st hg
    subst hP hw hK
    obtain ⟨⟨old, he⟩, hit, hne⟩ := st
    obtain ⟨xs, hq, hx⟩ := hg
    obtain ⟨its, rv, pt, hz⟩ := I.tuple hq
    have hlen := rv.length
    have D := Draws.tuple (prog := X.prog) (w := X.w) (A := X.A.in1) (I.ok.hd hc) it a hai its.toArray
    have ei : i = its.toArray.size := by simp only [List.size_toArray]; omega
    obtain ⟨g0, g1, g2, g3, g4, g5⟩ := hf it (by simp)
    exact wpAny_pyNext_enum_endD D he ⟨by rw [← ei]; exact hit, pt⟩ fun h' eb => ⟨rfl, I.turned (t' := s.toks) (fun b o hb q => (eb b o hb) q) g0 g1 g3 g4 g5⟩
  self := fun A i s Q E st h => let ⟨⟨_, he⟩, _⟩ := st; wpAny_pyIter_enum he h

section
variable {X : Cx} {tg : Expr}
/-- a list or a tuple -/
def iSq (K : PySem.W.Frag) (te : TE) : TI := fun σ H R => te σ H fun x H1 => (∃ a, x = .ref a ∧ ((∃ xs, SqL K H1 a xs ∧ R (Itl K a) H1) ∨ ∃ xs, SqT K H1 a xs ∧ R (Itt K a) H1)) ∨ ∃ z, x = .str z ∧ R (Its z) H1
theorem pi_sq {l : Expr} {te : TE} (he : PE X l te) : PI X tg l (iSq X.K te) := by
  refine ⟨fun pins s σ H R I h => thn (he.run pins s σ H _ I h) fun v s1 ⟨x, H1, I1, r1, q0⟩ => ?_⟩
  rcases q0 with ⟨a, ex, q1⟩ | ⟨z, ex, q1⟩
  case inr =>
    subst ex
    obtain ⟨tk, rfl⟩ := r1
    cases hb : z.cps.all (· < 128) with
    | false => exact wpAny_pyIter_wide hb (pi_one (tk := s1.toks) I1 _ (turn_str _ z tk "str_iterator" (.inr rfl)) ⟨_, Heap.get?_push_size _ rfl, rfl, rfl⟩ q1)
    | true => exact wpAny_pyIter_ascii hb (pi_one (tk := s1.toks) I1 _ (turn_str _ z tk "str_ascii_iterator" (.inl rfl)) ⟨_, Heap.get?_push_size _ rfl, rfl, rfl⟩ q1)
  subst ex
  cases r1
  have fresh : ∀ b ∈ [s1.heap.objs.size], FpOk X pins H1 b := fun b hb => by
    rw [List.mem_singleton.mp hb]
    exact I1.fpOk (Nat.le_refl _) (I1.hok.fresh (Nat.le_refl _))
  rcases q1 with ⟨xs, hq, q⟩ | ⟨xs, hq, q⟩
  · obtain ⟨its, rv, pl, hz⟩ := I1.list hq
    exact wpAny_pyIter_list pl.isList ⟨_, _, _, _, H1, rfl, I1.kept (t' := s1.toks) (fun b o e => Heap.get?_push_of_some _ e), turn_list a _, ⟨_, Heap.get?_push_size _ rfl, rfl, rfl⟩, fresh, q⟩
  · obtain ⟨its, rv, pt, hz⟩ := I1.tuple hq
    have pt' : s1.heap.IsTuple a its.toArray := pt
    exact wpAny_pyIter_tuple pt' ⟨_, _, _, _, H1, rfl, I1.kept (t' := s1.toks) (fun b o e => Heap.get?_push_of_some _ e), turn_tuple a _, ⟨_, Heap.get?_push_size _ rfl, rfl, rfl⟩, fresh, q⟩
/-- enumerate(e), e a list or a tuple -/
def iEn (K : PySem.W.Frag) (ta : TA) : TI := fun σ H R => ta σ H fun vs H1 => ∃ a, vs = [.ref a] ∧ ((∃ xs, SqL K H1 a xs ∧ R (Ite K a) H1) ∨ ∃ xs, SqT K H1 a xs ∧ R (IteT K a) H1)
theorem pi_en {e : Expr} {ta : TA} {p pos tpos : Pos} {elts : List Expr} {kk : Nat} (hg : Gl X "enumerate") (hm : X.mg "enumerate" = none) (ha : PA X [e] ta) (hs : starEach [e] X.env = [(false, eval e X.env)]) :
    PI X (.Tuple elts kk tpos) (.Call (.Name "enumerate" p) [e] [] pos) (iEn X.K ta) := by
  refine ⟨fun pins s σ H R I h => Call_ (ld_blt I hg hm boot_enumerate (PyProof.Rows.callWith_type1 (thn (ha.run pos pins s σ H _ I h) fun us s1 ⟨vs, H1, I1, r1, a, ex, q1⟩ => ?_) hs rfl))⟩
  subst ex
  obtain ⟨u, rfl, ru⟩ := vals1 r1
  cases ru
  have fresh : ∀ b ∈ [s1.heap.objs.size + 1, s1.heap.objs.size], FpOk X pins H1 b := fun b hb => by
    simp only [List.mem_cons, List.not_mem_nil, or_false] at hb
    have hb' : s1.heap.objs.size ≤ b := by rcases hb with z | z <;> (rw [z]; omega)
    exact I1.fpOk hb' (I1.hok.fresh hb')
  rcases q1 with ⟨xs, hq, q⟩ | ⟨xs, hq, q⟩
  · obtain ⟨its, rv, pl, hz⟩ := I1.list hq
    refine enum_call1 (begins_list a its.toArray) pl.isList fun h' he hit hk => wpAny_pyIter_enum he ?_
    exact ⟨_, _, _, _, H1, rfl, I1.kept (t' := s1.toks) hk, turn_enum a _ s1.heap.objs.size, ⟨⟨_, he⟩, ⟨_, hit, rfl, rfl⟩, Nat.succ_ne_self _⟩, fresh, q⟩
  · obtain ⟨its, rv, pt, hz⟩ := I1.tuple hq
    have pt' : s1.heap.IsTuple a its.toArray := pt
    have la : a < s1.heap.objs.size := pt.lt
    refine enum_call1 (begins_tuple a its.toArray) pt' fun h' he hit hk => wpAny_pyIter_enum he ?_
    exact ⟨_, _, _, _, H1, rfl, I1.kept (t' := s1.toks) hk, turn_enumT a _ s1.heap.objs.size (Nat.ne_of_lt la) (Nat.ne_of_lt (Nat.lt_succ_of_lt la)), ⟨⟨_, he⟩, ⟨_, hit, rfl, rfl⟩, Nat.succ_ne_self _⟩, fresh, q⟩
end
end Wh

set_option maxHeartbeats 4000000
/-! Wh, part J: walks over data. -/
namespace Wh
open PySem PySem.Spec PyProof.Rows L2

/-- J walks ds while the tuples and the lists fs stand as in Hc -/
structure Wlk (p : Pl) (Z : Addr → Prop) (H0 : Hp) (ds : List D) (J : It) (Hc : Hp) (fs : List Addr) : Prop where
  go : ∀ i H, Keeps p Hc H fs → i < ds.length → J.go i H
  yld : ∀ i H x H', Keeps p Hc H fs → (∃ o, H p.g = some o) → i < ds.length → J.yld i H x H' → Same H H' ∧ ∃ d f1, ds[i]? = some d ∧ Rf p H' x d f1 ∧ Shd Z H0 f1 ∧ ∀ b ∈ f1, b ∈ fs
  stop : ∀ H, Keeps p Hc H fs → J.stop ds.length H
  th : ∀ b ∈ fs, Hc b ≠ none

section
variable {p : Pl} {Z : Addr → Prop} {H0 Hc : Hp} {K : PySem.W.Frag}
theorem Keeps.sub {H H' : Hp} {f1 f2 : List Addr} (k : Keeps p H H' f2) (s : ∀ a ∈ f1, a ∈ f2) : Keeps p H H' f1 := ⟨k.1, fun a h => k.2 a (s a h)⟩
theorem RfL.keepS {H H' : Hp} {vs : List V} {ds : List D} {fp fs : List Addr} (r : RfL p H vs ds fp) (k : Keeps p H H' fs) (s : ∀ a ∈ fp, a ∈ fs) : RfL p H' vs ds fp := r.keep (k.sub s)
/-- a sequence as data: its place, its items' values, the items' lists q, all lists fs -/
inductive Sq (p : Pl) (Hc : Hp) : Bool → Addr → List V → List D → List Addr → List Addr → Prop
  | lst {a : Addr} {vs : List V} {ds : List D} {q : List Addr} (h : Hc a = some (.lst vs)) (n : a ≠ p.g) (r : RfL p Hc vs ds q) : Sq p Hc true a vs ds q (a :: q)
  | tup {a : Addr} {vs : List V} {ds : List D} {q : List Addr} (h : Tf Hc a vs) (n : a ≠ p.g) (r : RfL p Hc vs ds q) : Sq p Hc false a vs ds q q
  | ktup {a : Addr} {vs : List V} {ds : List D} {q : List Addr} (h : KT p.K a vs) (r : RfL p Hc vs ds q) : Sq p Hc false a vs ds q q
section
variable {b : Bool} {a : Addr} {vs : List V} {ds : List D} {q fs : List Addr} {H : Hp}
theorem Sq.items (h : Sq p Hc b a vs ds q fs) : RfL p Hc vs ds q := by
  cases h with
  | lst h n r => exact r
  | tup h n r => exact r
  | ktup h r => exact r
theorem Sq.sub (h : Sq p Hc b a vs ds q fs) : ∀ x ∈ q, x ∈ fs := by
  cases h with
  | lst h n r => exact fun x hx => List.mem_cons_of_mem _ hx
  | tup h n r => exact fun x hx => hx
  | ktup h r => exact fun x hx => hx
theorem Sq.sqL (h : Sq p Hc true a vs ds q fs) (k : Keeps p Hc H fs) {K' : PySem.W.Frag} : SqL K' H a vs := by
  cases h with
  | lst h n r => exact SqL.of (k.2 a List.mem_cons_self _ h True.intro n)
theorem Sq.sqT (h : Sq p Hc false a vs ds q fs) (k : Keeps p Hc H fs) : SqT p.K H a vs := by
  cases h with
  | tup h n r => exact (k.1.tf h n).sq
  | ktup h r => exact h.sq
theorem Sq.th (h : Sq p Hc b a vs ds q fs) : ∀ x ∈ fs, Hc x ≠ none := by
  intro x hx z
  cases h with
  | lst h n r =>
    rcases List.mem_cons.mp hx with rfl | hx
    · rw [h] at z; cases z
    · obtain ⟨us, t, _⟩ := r.there x hx
      rw [t] at z; cases z
  | tup h n r =>
    obtain ⟨us, t, _⟩ := r.there x hx
    rw [t] at z; cases z
  | ktup h r =>
    obtain ⟨us, t, _⟩ := r.there x hx
    rw [t] at z; cases z
theorem Keeps.refl (fs : List Addr) : Keeps p Hc Hc fs := ⟨.refl _ _, fun _ _ _ h _ _ => h⟩
theorem Sq.length (h : Sq p Hc b a vs ds q fs) : vs.length = ds.length := h.items.length
theorem Rf.sq_tup {v : V} (h : Rf p Hc v (.tup ds) fs) : ∃ a vs, v = .ref a ∧ Sq p Hc false a vs ds fs fs := by
  cases h with
  | tup h n r => exact ⟨_, _, rfl, .tup h n r⟩
  | ktup h r => exact ⟨_, _, rfl, .ktup h r⟩
theorem Rf.sq_lst {v : V} (h : Rf p Hc v (.lst ds) fs) : ∃ a vs q, v = .ref a ∧ fs = a :: q ∧ Sq p Hc true a vs ds q fs := by
  cases h with
  | lst h n r => exact ⟨_, _, _, rfl, rfl, .lst h n r⟩
end
theorem RfL.get' {H : Hp} {vs : List V} {ds : List D} {fp : List Addr} {i : Nat} {v : V} (h : RfL p H vs ds fp) (e : vs[i]? = some v) : ∃ d f1, ds[i]? = some d ∧ Rf p H v d f1 ∧ f1.Sublist fp := by
  have hi : i < ds.length := by
    have := (List.getElem?_eq_some_iff.mp e).1
    have := h.length
    omega
  obtain ⟨w, f1, h1, h2, h3⟩ := h.get (List.getElem?_eq_getElem hi)
  rw [e] at h1
  cases h1
  exact ⟨_, f1, List.getElem?_eq_getElem hi, h2, h3⟩
/-- what itemsR tells of a value -/
theorem itemsR_ok {Hs H : Hp} {r : RV} {v : V} {l : List D} (e0 : Ext p.g H0 Hs) (h : VR p Z H0 Hs r v H) (e : itemsR r = some l) : ∃ b a vs q fs, v = .ref a ∧ b = isLst r.d ∧ Sq p H b a vs l q fs ∧ Shd Z H0 q ∧ (r.f.lent = false → Shd Z H0 fs) := by
  obtain ⟨d, f⟩ := r
  obtain ⟨fp, h1, h2⟩ := h
  have h2 := h2.back e0
  cases d with
  | lst ds =>
    simp only [itemsR] at e
    obtain ⟨a, vs, q, rfl, rfl, sq⟩ := h1.sq_lst
    have el : ds = l ∧ Shd Z H0 q := by
      split at e
      · rename_i c
        exact ⟨Option.some.inj e, by rw [sq.items.flat c]; exact .nil⟩
      · refine ⟨?_, Hd.kids h2 fun z => ?_⟩
        · cases f <;> first | exact Option.some.inj e | cases e
        · have z : f = .BD := z
          subst z; cases e
    obtain ⟨rfl, el⟩ := el
    exact ⟨true, a, vs, q, a :: q, rfl, rfl, sq, el, fun hl => Hd.all h2 hl⟩
  | tup ds =>
    simp only [itemsR] at e
    obtain ⟨a, vs, rfl, sq⟩ := h1.sq_tup
    have el : ds = l ∧ Shd Z H0 fp := by
      split at e
      · rename_i c
        exact ⟨Option.some.inj e, by rw [sq.items.flat c]; exact .nil⟩
      · refine ⟨?_, Hd.all h2 ?_⟩
        · cases f <;> first | exact Option.some.inj e | cases e
        · cases f <;> first | rfl | cases e
    obtain ⟨rfl, el⟩ := el
    exact ⟨false, a, vs, fp, fp, rfl, rfl, sq, el, fun _ => el⟩
  | _ => cases e
/-! ### the walks -/
section
variable {a b : Addr} {vs ws : List V} {ds es : List D} {q q2 fs fs2 : List Addr}
theorem at_of {α : Type} {l : List α} {i : Nat} (h : i < l.length) : ∃ x, l[i]? = some x := ⟨_, List.getElem?_eq_getElem h⟩
theorem wlk_list (h : Sq p Hc true a vs ds q fs) (sh : Shd Z H0 q) : Wlk p Z H0 ds (Itl K a) Hc fs where
  go := fun i H k hi => by
    obtain ⟨x, hx⟩ := at_of (l := vs) (by rw [h.length]; exact hi)
    exact ⟨vs, x, h.sqL k, hx⟩
  yld := fun i H x H' k hg hi y => by
    obtain ⟨rfl, y⟩ := y
    obtain ⟨d, f1, h1, h2, h3⟩ := h.items.get' (y vs (h.sqL k))
    have s1 : ∀ b ∈ f1, b ∈ fs := fun b hb => h.sub b (h3.subset hb)
    exact ⟨Same.refl _, d, f1, h1, h2.keep (k.sub s1), sh.sub (fun b hb => h3.subset hb), s1⟩
  stop := fun H k => ⟨vs, h.sqL k, by rw [h.length]; exact Nat.le_refl _⟩
  th := h.th
theorem wlk_tup (h : Sq p Hc false a vs ds q fs) (sh : Shd Z H0 q) : Wlk p Z H0 ds (Itt p.K a) Hc fs where
  go := fun i H k hi => by
    obtain ⟨x, hx⟩ := at_of (l := vs) (by rw [h.length]; exact hi)
    exact ⟨vs, x, h.sqT k, hx⟩
  yld := fun i H x H' k hg hi y => by
    obtain ⟨rfl, y⟩ := y
    obtain ⟨d, f1, h1, h2, h3⟩ := h.items.get' (y vs (h.sqT k))
    have s1 : ∀ b ∈ f1, b ∈ fs := fun b hb => h.sub b (h3.subset hb)
    exact ⟨Same.refl _, d, f1, h1, h2.keep (k.sub s1), sh.sub (fun b hb => h3.subset hb), s1⟩
  stop := fun H k => ⟨vs, h.sqT k, by rw [h.length]; exact Nat.le_refl _⟩
  th := h.th
theorem wlk_rng (lo : Int) (n : Nat) : Wlk p Z H0 (rangeL lo n) (Itr lo n) Hc [] where
  go := fun i H k hi => by
    simp only [rangeL, List.length_map, List.length_range] at hi
    exact hi
  yld := fun i H x H' k hg hi y => by
    obtain ⟨rfl, rfl⟩ := y
    simp only [rangeL, List.length_map, List.length_range] at hi
    exact ⟨Same.refl _, .int (lo + i), [], by simp [rangeL, hi], .int _, .nil, fun _ h => h⟩
  stop := fun H k => by
    simp only [rangeL, List.length_map, List.length_range]
    exact Nat.le_refl n
  th := fun x hx => absurd hx (by simp)
theorem wlk_str (z : Str) : Wlk p Z H0 (strL z) (Its z) Hc [] where
  go := fun i H k hi => by
    show i < z.cps.size
    simpa [strL] using hi
  yld := fun i H x H' k hg hi y => by
    obtain ⟨rfl, c, h1, rfl⟩ := y
    refine ⟨Same.refl _, .str ⟨#[c]⟩, [], ?_, .str _, .nil, fun _ h => h⟩
    unfold strL
    rw [List.getElem?_map, Array.getElem?_toList, h1]
    rfl
  stop := fun H k => by
    show z.cps.size ≤ (strL z).length
    simp [strL]
  th := fun x hx => absurd hx (by simp)
/-- a new pair of items -/
theorem pair_ok {H H' : Hp} {T : Addr} {x y : V} {d e : D} {f1 f2 : List Addr} (hn : H T = none) (hg : ∃ o, H p.g = some o) (r1 : Rf p H x d f1) (r2 : Rf p H y e f2) : Same H (upd H T (.tup [x, y])) ∧ Rf p (upd H T (.tup [x, y])) (.ref T) (.pr [d, e]) (f1 ++ f2) := by
  have sm := Same.new (o := .tup [x, y]) hn
  refine ⟨sm, .pr upd_same (nog hn hg) ?_⟩
  have e2 : f2 = f2 ++ [] := (List.append_nil _).symm
  rw [e2]
  exact .cons (r1.ext (.of_same sm)) (.cons (r2.ext (.of_same sm)) .nil)
theorem zip_at {ds es : List D} {i : Nat} {d e : D} (h1 : ds[i]? = some d) (h2 : es[i]? = some e) : ((ds.zip es).map fun p => D.pr [p.1, p.2])[i]? = some (.pr [d, e]) := by
  rw [List.getElem?_map, (List.getElem?_zip_eq_some (z := (d, e))).mpr ⟨h1, h2⟩]
  rfl
theorem zip_len {ds es : List D} : ((ds.zip es).map fun p => D.pr [p.1, p.2]).length = min ds.length es.length := by simp
theorem wlk_zipL (h : Sq p Hc true a vs ds q fs) (sh : Shd Z H0 q) (h2 : Sq p Hc true b ws es q2 fs2) (sh2 : Shd Z H0 q2) : Wlk p Z H0 ((ds.zip es).map fun p => .pr [p.1, p.2]) (Itz K a b) Hc (fs ++ fs2) where
  go := fun i H k hi => by
    rw [zip_len] at hi
    obtain ⟨x, hx⟩ := at_of (l := vs) (i := i) (by rw [h.length]; omega)
    obtain ⟨y, hy⟩ := at_of (l := ws) (i := i) (by rw [h2.length]; omega)
    exact ⟨vs, ws, x, y, h.sqL k.left, h2.sqL k.right, hx, hy⟩
  yld := fun i H v H' k hg hi y => by
    obtain ⟨T, x, y, rfl, hn, rfl, y1, y2⟩ := y
    obtain ⟨d, f1, a1, a2, a3⟩ := h.items.get' (y1 vs (h.sqL k.left))
    obtain ⟨e, f2, b1, b2, b3⟩ := h2.items.get' (y2 ws (h2.sqL k.right))
    have s1 : ∀ b ∈ f1, b ∈ fs := fun b hb => h.sub b (a3.subset hb)
    have s2 : ∀ b ∈ f2, b ∈ fs2 := fun b hb => h2.sub b (b3.subset hb)
    obtain ⟨sm, rf⟩ := pair_ok (p := p) (H' := H) hn hg (a2.keep (k.left.sub s1)) (b2.keep (k.right.sub s2))
    exact ⟨sm, _, _, zip_at a1 b1, rf, (sh.sub fun b hb => a3.subset hb).app (sh2.sub fun b hb => b3.subset hb), fun b hb => (List.mem_append.mp hb).elim (fun z => List.mem_append_left _ (s1 b z)) fun z => List.mem_append_right _ (s2 b z)⟩
  stop := fun H k => by
    rw [zip_len]
    exact ⟨vs, ws, h.sqL k.left, h2.sqL k.right, by rw [h.length, h2.length]; omega⟩
  th := fun x hx => (List.mem_append.mp hx).elim (h.th x) (h2.th x)
theorem wlk_zipT (h : Sq p Hc false a vs ds q fs) (sh : Shd Z H0 q) (h2 : Sq p Hc false b ws es q2 fs2) (sh2 : Shd Z H0 q2) : Wlk p Z H0 ((ds.zip es).map fun p => .pr [p.1, p.2]) (RZ.ItzT p.K a b) Hc (fs ++ fs2) where
  go := fun i H k hi => by
    rw [zip_len] at hi
    obtain ⟨x, hx⟩ := at_of (l := vs) (i := i) (by rw [h.length]; omega)
    obtain ⟨y, hy⟩ := at_of (l := ws) (i := i) (by rw [h2.length]; omega)
    exact ⟨vs, ws, x, y, h.sqT k.left, h2.sqT k.right, hx, hy⟩
  yld := fun i H v H' k hg hi y => by
    obtain ⟨T, x, y, rfl, hn, rfl, y1, y2⟩ := y
    obtain ⟨d, f1, a1, a2, a3⟩ := h.items.get' (y1 vs (h.sqT k.left))
    obtain ⟨e, f2, b1, b2, b3⟩ := h2.items.get' (y2 ws (h2.sqT k.right))
    have s1 : ∀ b ∈ f1, b ∈ fs := fun b hb => h.sub b (a3.subset hb)
    have s2 : ∀ b ∈ f2, b ∈ fs2 := fun b hb => h2.sub b (b3.subset hb)
    obtain ⟨sm, rf⟩ := pair_ok (p := p) (H' := H) hn hg (a2.keep (k.left.sub s1)) (b2.keep (k.right.sub s2))
    exact ⟨sm, _, _, zip_at a1 b1, rf, (sh.sub fun b hb => a3.subset hb).app (sh2.sub fun b hb => b3.subset hb), fun b hb => (List.mem_append.mp hb).elim (fun z => List.mem_append_left _ (s1 b z)) fun z => List.mem_append_right _ (s2 b z)⟩
  stop := fun H k => by
    rw [zip_len]
    exact ⟨vs, ws, h.sqT k.left, h2.sqT k.right, by rw [h.length, h2.length]; omega⟩
  th := fun x hx => (List.mem_append.mp hx).elim (h.th x) (h2.th x)
theorem enum_len {ds : List D} : (enumL ds).length = ds.length := by simp [enumL]
theorem enum_at {ds : List D} {i : Nat} {d : D} (h1 : ds[i]? = some d) : (enumL ds)[i]? = some (.pr [.int (i : Int), d]) := by
  have hi := (List.getElem?_eq_some_iff.mp h1).1
  unfold enumL
  rw [List.getElem?_map, (List.getElem?_zip_eq_some (z := (i, d))).mpr ⟨(List.getElem?_eq_some_iff.mpr ⟨by simpa using hi, by simp⟩ : (List.range ds.length)[i]? = some i), h1⟩]
  rfl
theorem wlk_enumL (h : Sq p Hc true a vs ds q fs) (sh : Shd Z H0 q) : Wlk p Z H0 (enumL ds) (Ite K a) Hc fs where
  go := fun i H k hi => by
    rw [enum_len] at hi
    obtain ⟨x, hx⟩ := at_of (l := vs) (by rw [h.length]; exact hi)
    exact ⟨vs, x, h.sqL k, hx⟩
  yld := fun i H v H' k hg hi y => by
    obtain ⟨T, x, rfl, hn, rfl, y1⟩ := y
    obtain ⟨d, f1, a1, a2, a3⟩ := h.items.get' (y1 vs (h.sqL k))
    have s1 : ∀ b ∈ f1, b ∈ fs := fun b hb => h.sub b (a3.subset hb)
    obtain ⟨sm, rf⟩ := pair_ok (p := p) (H' := H) (x := .int (i : Nat)) hn hg (.int (i : Nat)) (a2.keep (k.sub s1))
    exact ⟨sm, _, _, enum_at a1, rf, sh.sub fun b hb => a3.subset (by simpa using hb), fun b hb => s1 b (by simpa using hb)⟩
  stop := fun H k => by
    rw [enum_len]
    exact ⟨vs, h.sqL k, by rw [h.length]; exact Nat.le_refl _⟩
  th := h.th
theorem wlk_enumT (h : Sq p Hc false a vs ds q fs) (sh : Shd Z H0 q) : Wlk p Z H0 (enumL ds) (IteT p.K a) Hc fs where
  go := fun i H k hi => by
    rw [enum_len] at hi
    obtain ⟨x, hx⟩ := at_of (l := vs) (by rw [h.length]; exact hi)
    exact ⟨vs, x, h.sqT k, hx⟩
  yld := fun i H v H' k hg hi y => by
    obtain ⟨T, x, rfl, hn, rfl, y1⟩ := y
    obtain ⟨d, f1, a1, a2, a3⟩ := h.items.get' (y1 vs (h.sqT k))
    have s1 : ∀ b ∈ f1, b ∈ fs := fun b hb => h.sub b (a3.subset hb)
    obtain ⟨sm, rf⟩ := pair_ok (p := p) (H' := H) (x := .int (i : Nat)) hn hg (.int (i : Nat)) (a2.keep (k.sub s1))
    exact ⟨sm, _, _, enum_at a1, rf, sh.sub fun b hb => a3.subset (by simpa using hb), fun b hb => s1 b (by simpa using hb)⟩
  stop := fun H k => by
    rw [enum_len]
    exact ⟨vs, h.sqT k, h.length⟩
  th := h.th
end
end
end Wh

set_option maxHeartbeats 4000000
/-! Wh, part K: targets, list comprehensions. -/
namespace Wh
open PySem PySem.Spec PyProof.Rows L2

/-! ### the names -/
theorem get_put {δ : Env} {i j : Nat} {m : Md} {d : D} {r : Md × D} (h : (δ.put i m d).get j = some r) : (j = i ∧ i < δ.length ∧ r = (m, d)) ∨ (j ≠ i ∧ δ.get j = some r) := by
  unfold Env.get Env.put at *
  by_cases e : i = j
  · subst e
    by_cases hl : i < δ.length
    · rw [List.getElem?_set_self hl] at h
      exact .inl ⟨rfl, hl, (Option.some.inj h).symm⟩
    · rw [List.getElem?_eq_none (by simpa using hl)] at h
      cases h
  · rw [List.getElem?_set_ne e] at h
    exact .inr ⟨fun z => e z.symm, h⟩
theorem wipe_len (δ : Env) : ∀ ws : List Nat, (δ.wipe ws).length = δ.length
  | [] => rfl
  | i :: r => by rw [Env.wipe, List.length_set, wipe_len δ r]
theorem get_wipe {δ : Env} {j : Nat} {r : Md × D} : ∀ {ws : List Nat}, (δ.wipe ws).get j = some r → δ.get j = some r ∧ j ∉ ws
  | [], h => ⟨h, by simp⟩
  | i :: ws, h => by
    unfold Env.wipe Env.get at h
    by_cases e : i = j
    · subst e
      by_cases hl : i < (Env.wipe δ ws).length
      · rw [List.getElem?_set_self hl] at h; cases h
      · rw [List.getElem?_eq_none (by simpa using hl)] at h; cases h
    · rw [List.getElem?_set_ne e] at h
      obtain ⟨h1, h2⟩ := get_wipe (δ := δ) (j := j) (ws := ws) h
      exact ⟨h1, by simp only [List.mem_cons, not_or]; exact ⟨fun z => e z.symm, h2⟩⟩
theorem EnvV.wipe {p : Pl} {Z : Addr → Prop} {δ : Env} {σ : L2.St} {H : Hp} (h : EnvV p Z δ σ H) (ws : List Nat) : EnvV p Z (δ.wipe ws) (L2.wipe σ ws) H :=
  ⟨by rw [wipe_len, wipe_length, h.len], fun i m d q => by
    obtain ⟨q1, q2⟩ := get_wipe q
    obtain ⟨v, fp, h1, h2, h3⟩ := h.at_ i m d q1
    exact ⟨v, fp, by rw [wipe_out q2]; exact h1, h2, h3⟩⟩
theorem EnvV.put {p : Pl} {Z : Addr → Prop} {δ : Env} {σ : L2.St} {H : Hp} (h : EnvV p Z δ σ H) {i : Nat} {m : Md} {d : D} {v : V} {fp : List Addr} (r : Rf p H v d fp) (hm : match m with
    | .S => ∀ b ∈ fp, Z b
    | .R => ∃ a q, fp = a :: q ∧ ∀ b ∈ q, Z b
    | .D => True) : EnvV p Z (δ.put i m d) (σ.set i (some v)) H :=
  ⟨by unfold Env.put; rw [List.length_set, List.length_set, h.len], fun j m' d' q => by
    rcases get_put q with ⟨rfl, hl, e⟩ | ⟨hne, q⟩
    · cases e
      exact ⟨v, fp, List.getElem?_set_self (by rw [← h.len]; exact hl), r, hm⟩
    · obtain ⟨w, f2, h1, h2, h3⟩ := h.at_ j m' d' q
      exact ⟨w, f2, by rw [List.getElem?_set_ne (Ne.symm hne)]; exact h1, h2, h3⟩⟩
theorem wipe_set {σ : L2.St} {i : Nat} {x : Option V} : ∀ {ws : List Nat}, i ∈ ws → L2.wipe (σ.set i x) ws = L2.wipe σ ws := by
  intro ws h
  apply List.ext_getElem?
  intro j
  by_cases hj : j ∈ ws
  · -- both are wiped there
    have both : ∀ (τ : L2.St), (L2.wipe τ ws)[j]? = if j < τ.length then some none else none := fun τ => by
      clear h
      induction ws with
      | nil => cases hj
      | cons w ws ih =>
        unfold L2.wipe
        by_cases e : w = j
        · subst e
          by_cases hl : w < (L2.wipe τ ws).length
          · rw [List.getElem?_set_self hl, if_pos (by rw [← wipe_length τ ws]; exact hl)]
          · rw [List.getElem?_eq_none (by simpa using hl), if_neg (by rw [← wipe_length τ ws]; exact hl)]
        · rw [List.getElem?_set_ne e]
          exact ih ((List.mem_cons.mp hj).resolve_left fun z => e z.symm)
    rw [both, both, List.length_set]
  · rw [wipe_out hj, wipe_out hj]
    exact List.getElem?_set_ne fun z => hj (by rw [← z]; exact h)

/-! ### targets -/
def Tg.slots : Tg → List Nat
  | .n i => [i]
  | .tup l => l
/-- a shared value to a target -/
def rdG (p : Pl) (t : Tg) : TG := fun v σ H Q => ∃ Z δ d fp δ' H0, Ext p.g H0 H ∧ EnvV p Z δ σ H0 ∧ Rf p H0 v d fp ∧ (∀ b ∈ fp, Z b) ∧ asgTg t ⟨d, .S⟩ δ = some δ' ∧
  ∀ σ', EnvV p Z δ' σ' H0 → (∀ ws, (∀ i ∈ t.slots, i ∈ ws) → L2.wipe σ' ws = L2.wipe σ ws) → Q σ' H
theorem mdOf_S {d : D} {m : Md} (h : mdOf ⟨d, .S⟩ = some m) : m = .S := by
  unfold mdOf at h
  split at h <;> exact (Option.some.inj h).symm
section
variable {X : Cx} {p : Pl}
theorem _root_.L2.PG.weak {e : Expr} {t t' : TG} (h : PG X e t) (w : ∀ v σ H Q, t' v σ H Q → t v σ H Q) : PG X e t' := ⟨fun pins s σ H v u Q I r q => h.run pins s σ H v u Q I r (w v σ H Q q)⟩
theorem g_name {e : Expr} {i : Nat} (h : PG X e (gName i)) : PG X e (rdG p (.n i)) := h.weak fun v σ H Q ⟨Z, δ, d, fp, δ', H0, _, h1, h2, h3, h4, h5⟩ => by
  have h4 : (match mdOf ⟨d, .S⟩ with | some m => some (δ.put i m d) | none => none) = some δ' := h4
  cases q : mdOf ⟨d, .S⟩ with
  | none => rw [q] at h4; cases h4
  | some m =>
    rw [q] at h4
    cases h4
    cases mdOf_S q
    exact h5 _ (h1.put h2 h3) fun ws hw => wipe_set (hw i (by simp [Tg.slots]))
/-- names of a tuple target, in order -/
def gNames : List Nat → TGs
  | [] => gNil
  | i :: r => gCons (gName i) (gNames r)
theorem gNames_ok {Z : Addr → Prop} {H H0 : Hp} {Q : L2.St → Hp → Prop} : ∀ (is : List Nat) {vs : List V} {ds : List D} {fp : List Addr} {δ δ' : Env} {σ : L2.St}, EnvV p Z δ σ H0 → RfL p H0 vs ds fp → (∀ b ∈ fp, Z b) → asgL is ds .S δ = some δ' →
    (∀ σ', EnvV p Z δ' σ' H0 → (∀ ws, (∀ i ∈ is, i ∈ ws) → L2.wipe σ' ws = L2.wipe σ ws) → Q σ' H) → gNames is vs σ H Q
  | [], _, _, _, _, _, _, h1, .nil, h3, h4, h5 => by
    cases h4
    exact ⟨rfl, h5 _ h1 fun _ _ => rfl⟩
  | [], _, _, _, _, _, _, h1, .cons _ _, h3, h4, h5 => by cases h4
  | i :: is, _, _, _, _, _, _, h1, .nil, h3, h4, h5 => by cases h4
  | i :: is, _, _, _, δ, δ', σ, h1, .cons (v := v) (vs := vs) (d := d) (ds := ds) (f1 := f1) r t, h3, h4, h5 => by
    have h4 : (match mdOf ⟨d, .S⟩ with | some m => asgL is ds .S (δ.put i m d) | none => none) = some δ' := h4
    cases q : mdOf ⟨d, .S⟩ with
    | none => rw [q] at h4; cases h4
    | some m =>
      rw [q] at h4
      cases mdOf_S q
      refine ⟨v, vs, rfl, ?_⟩
      refine gNames_ok is (h1.put r fun b hb => h3 b (List.mem_append_left _ hb)) t (fun b hb => h3 b (List.mem_append_right _ hb)) h4 fun σ' e1 e2 => h5 σ' e1 fun ws hw => ?_
      rw [e2 ws (fun j hj => hw j (List.mem_cons_of_mem _ hj)), wipe_set (hw i List.mem_cons_self)]
theorem g_tup {e : Expr} {is : List Nat} (hK : p.K = X.K) (h : PG X e (gTup X.K is.length (gNames is))) : PG X e (rdG p (.tup is)) := h.weak fun v σ H Q ⟨Z, δ, d, fp, δ', H0, he, h1, h2, h3, h4, h5⟩ => by
  cases d with
  | tup ds =>
    have h4 : asgL is ds .S δ = some δ' := h4
    obtain ⟨a, vs, rfl, sq⟩ := h2.sq_tup
    have s1 := sq.sqT (.of_ext he fp)
    rw [hK] at s1
    refine ⟨a, vs, rfl, s1, ?_, gNames_ok is h1 sq.items h3 h4 h5⟩
    rw [sq.length]
    exact asgL_len h4
  | pr ds =>
    have h4 : asgL is ds .S δ = some δ' := h4
    obtain ⟨a, vs, rfl, s0, l1⟩ := h2.pr_
    have s1 : SqT X.K H a vs := SqT.of ((KpO.of_ext he).tup s0.1 s0.2)
    refine ⟨a, vs, rfl, s1, ?_, gNames_ok is h1 l1 h3 h4 h5⟩
    rw [l1.length]
    exact asgL_len h4
  | _ => cases h4
where asgL_len : ∀ {is : List Nat} {ds : List D} {f : Fl} {δ δ' : Env}, asgL is ds f δ = some δ' → ds.length = is.length
  | [], [], _, _, _, _ => rfl
  | i :: is, d :: ds, f, δ, δ', h => by
    have h : (match mdOf ⟨d, f⟩ with | some m => asgL is ds f (δ.put i m d) | none => none) = some δ' := h
    cases q : mdOf ⟨d, f⟩ with
    | none => rw [q] at h; cases h
    | some m =>
      rw [q] at h
      exact congrArg (· + 1) (asgL_len h)
  | [], _ :: _, _, _, _, h => by cases h
  | _ :: _, [], _, _, _, h => by cases h
end
end Wh

set_option maxHeartbeats 4000000
/-! Wh, part L: what is walked; list comprehensions. -/
namespace Wh
open PySem PySem.Spec PyProof.Rows L2

/-! ### what is walked -/
def rdI (p : Pl) (C : Cs) (W : WX) (b : Bool) (s : Src) : TI := fun σ H R => ∃ δ B Z H0, Pre p δ B Z H0 σ H ∧ PostG p W σ H (evS C b s δ B) fun ds _ H' => ∀ J fs, Wlk p Z H0 ds J H' fs → (b = true → srcOk s δ = true → Shd Z H0 fs) → R J H'
theorem _root_.L2.PI.weak {X : Cx} {tg e : Expr} {t t' : TI} (h : PI X tg e t) (w : ∀ σ H Q, t' σ H Q → t σ H Q) : PI X tg e t' := ⟨fun pins s σ H R I q => h.run pins s σ H R I (w σ H R q)⟩
section
variable {X : Cx} {p : Pl} {C : Cs} {W : WX} {b : Bool} {tg e : Expr}
theorem lent_split {α : Type} {σ : L2.St} {H : Hp} {c : Bool} {o : Option α} {B : Bag} {k : α → Bag → Hp → Prop} (h : PostG p W σ H (if c = true then .st else opt o B) k) : c = false ∧ PostG p W σ H (opt o B) k := by
  cases c with
  | true => exact h.elim
  | false => exact ⟨rfl, h⟩
/-- from a value to its walk -/
theorem sq_turn {Z : Addr → Prop} {H0 Hs H1 : Hp} {x : RV} {v : V} {l : List D} {R : It → Hp → Prop} {Cn : Prop} (hK : p.K = X.K) (e0 : Ext p.g H0 Hs) (hv : VR p Z H0 Hs x v H1) (e : itemsW x = some l) (hl : Cn → x.f.lent = false)
    (k : ∀ J fs, Wlk p Z H0 l J H1 fs → (Cn → Shd Z H0 fs) → R J H1) : (∃ a, v = .ref a ∧ ((∃ xs, SqL X.K H1 a xs ∧ R (Itl X.K a) H1) ∨ ∃ xs, SqT X.K H1 a xs ∧ R (Itt X.K a) H1)) ∨ ∃ z, v = .str z ∧ R (Its z) H1 := by
  by_cases hx : ∃ z, x.d = .str z
  · obtain ⟨z, hz⟩ := hx
    obtain ⟨d, f⟩ := x
    cases hz
    cases e
    obtain ⟨fp, rf⟩ := hv.rf
    cases rf.str_
    exact .inr ⟨z, rfl, k _ [] (wlk_str z) fun _ => .nil⟩
  · have e : itemsR x = some l := by
      obtain ⟨d, f⟩ := x
      cases d <;> first | exact e | exact absurd ⟨_, rfl⟩ hx
    obtain ⟨bb, a, vs, q, fs, rfl, _, sq, sh, hf⟩ := itemsR_ok e0 hv e
    refine .inl ⟨a, rfl, ?_⟩
    cases bb with
    | true => exact .inl ⟨vs, sq.sqL (.refl _), k _ fs (wlk_list sq sh) fun c => hf (hl c)⟩
    | false =>
      have w := wlk_tup (Z := Z) (H0 := H0) sq sh
      have s := sq.sqT (.refl _)
      rw [hK] at w s
      exact .inr ⟨vs, s, k _ fs w fun c => hf (hl c)⟩
theorem i_v {i : Nat} (hK : p.K = X.K) (he : PE X e (rdE p C W (.v i))) : PI X tg e (rdI p C W b (.v i)) := by
  refine (pi_sq he).weak fun σ H R h => ?_
  obtain ⟨δ, B, Z, H0, pre, post⟩ := h
  have post : PostG p W σ H (match slot δ i with | some x => opt (itemsW x) B | none => .st) _ := post
  cases q : slot δ i with
  | none => rw [q] at post; exact post.elim
  | some x =>
    rw [q] at post
    obtain ⟨l, e2, h2⟩ := PostG.opt post
    have hev : ev C (.v i) false δ B = .ok x B := by show (match slot δ i with | some r => asTest false r B | none => .st) = _; rw [q]; rfl
    refine ⟨δ, B, Z, H0, pre, ?_⟩
    rw [hev]
    intro H1 e1 a1 v hv
    refine sq_turn (Cn := b = true ∧ srcOk (.v i) δ = true) hK (pre.ext) hv e2 (fun ⟨_, c⟩ => ?_) fun J fs w c => h2 H1 e1 a1 J fs w fun c1 c2 => c ⟨c1, c2⟩
    have c : (match slot δ i with | some x => !x.f.lent | none => false) = true := c
    rw [q] at c
    simpa using c
theorem i_e {a' : E} (hK : p.K = X.K) (he : PE X e (rdE p C W a')) : PI X tg e (rdI p C W b (.e a')) := by
  refine (pi_sq he).weak fun σ H R h => ?_
  obtain ⟨δ, B, Z, H0, pre, post⟩ := h
  refine rdX_use pre (PostG.bind (r := ev C a' false δ B) post) fun x B1 H1 e1 a1 h1 v hv => ?_
  obtain ⟨c, h1⟩ := lent_split h1
  obtain ⟨l, e2, h2⟩ := PostG.opt h1
  refine sq_turn (Cn := b = true) hK pre.ext hv e2 (fun z => ?_) fun J fs w c => h2 H1 (.refl _ _) a1 J fs w fun c1 _ => c c1
  rw [z, Bool.true_and] at c
  exact c
theorem PostG.known {α : Type} {σ : L2.St} {H : Hp} {r : Res α} {k : α → Bag → Hp → Prop} (h : PostG p W σ H r k) : PostG p W σ H r fun a B' H' => r = .ok a B' ∧ k a B' H' := by
  cases r with
  | ok a B => exact fun H' e a' => ⟨rfl, h H' e a'⟩
  | exc x B => exact h
  | st => exact h
def EL.len : EL → Nat
  | .nil => 0
  | .cons _ r => r.len + 1
theorem bind_ok {α β : Type} {r : Res α} {f : α → Bag → Res β} {b : β} {B : Bag} (h : r.bind f = .ok b B) : ∃ a B1, r = .ok a B1 ∧ f a B1 = .ok b B := by
  cases r with
  | ok a B1 => exact ⟨a, B1, rfl, h⟩
  | exc x B1 => cases h
  | st => cases h
theorem evL_len {δ : Env} : ∀ {l : EL} {B B' : Bag} {rs : List RV}, evL C l δ B = .ok rs B' → rs.length = l.len
  | .nil, _, _, _, h => by cases h; rfl
  | .cons e r, B, B', rs, h => by
    obtain ⟨x, B1, h1, h2⟩ := bind_ok (r := ev C e false δ B) h
    obtain ⟨xs, B2, h3, h4⟩ := bind_ok h2
    cases h4
    exact congrArg (· + 1) (evL_len h3)
theorem one_of {α : Type} {l : List α} (h : l.length = 1) : ∃ x, l = [x] := by
  match l, h with
  | [x], _ => exact ⟨x, rfl⟩
theorem two_of {α : Type} {l : List α} (h : l.length = 2) : ∃ x y, l = [x, y] := by
  match l, h with
  | [x, y], _ => exact ⟨x, y, rfl⟩
/-- arguments, as many as told -/
theorem rdL_len {σ : L2.St} {H : Hp} {l : EL} {δ : Env} {B : Bag} {Z : Addr → Prop} {H0 : Hp} {k : List RV → Bag → Hp → Prop} {Q : List V → Hp → Prop} (pre : Pre p δ B Z H0 σ H) (h : PostG p W σ H (evL C l δ B) k) (m : ∀ r B1 H1, Ext p.g H H1 → Amb p B1 H1 → r.length = l.len → k r B1 H1 → ∀ v, v.length = l.len → VRL p Z H0 H r v H1 → Q v H1) :
    rdL p C W l σ H Q := ⟨δ, B, Z, H0, pre, (PostG.known h).mono fun r B1 H1 e1 a1 ⟨h0, h1⟩ v hv => m r B1 H1 e1 a1 (evL_len h0) h1 v (by rw [hv.length, evL_len h0]) hv⟩
theorem i_rng1 {a : Expr} {a' : E} {q pos : Pos} (hg : Gl X "range") (hm : X.mg "range" = none) (ha : PA X [a] (rdL p C W (.cons a' .nil))) (hs : starEach [a] X.env = [(false, eval a X.env)]) : PI X tg (.Call (.Name "range" q) [a] [] pos) (rdI p C W b (.rng (.cons a' .nil))) := by
  refine (pi_range1 hg hm ha hs).weak fun σ H R h => ?_
  obtain ⟨δ, B, Z, H0, pre, post⟩ := h
  refine rdL_len pre (PostG.bind (r := evL C (.cons a' .nil) δ B) post) fun rs B1 H1 e1 a1 hl h1 vs hl2 hvs => ?_
  obtain ⟨ds, e2, h2⟩ := PostG.opt h1
  obtain ⟨x, rfl⟩ := one_of hl
  obtain ⟨v, rfl⟩ := one_of hl2
  obtain ⟨H2, b1, b2, b3, b4⟩ := hvs
  obtain ⟨d, f⟩ := x
  cases d with
  | int n =>
    obtain ⟨fp, rf⟩ := b2.rf
    cases rf.int_
    have e2 : (if -1000000 ≤ n ∧ n ≤ 1000000 then some (rangeL 0 n.toNat) else none) = some ds := e2
    split at e2
    · rename_i c
      cases e2
      exact ⟨n, rfl, by omega, by omega, h2 H1 (.refl _ _) a1 _ [] (wlk_rng 0 n.toNat) fun _ _ => .nil⟩
    · cases e2
  | _ => cases e2
theorem i_rng2 {a c : Expr} {a' c' : E} {q pos : Pos} (hg : Gl X "range") (hm : X.mg "range" = none) (ha : PA X [a, c] (rdL p C W (.cons a' (.cons c' .nil)))) (hs : starEach [a, c] X.env = [(false, eval a X.env), (false, eval c X.env)]) (hs2 : starEach [c] X.env = [(false, eval c X.env)]) :
    PI X tg (.Call (.Name "range" q) [a, c] [] pos) (rdI p C W b (.rng (.cons a' (.cons c' .nil)))) := by
  refine (pi_range2 hg hm ha hs hs2).weak fun σ H R h => ?_
  obtain ⟨δ, B, Z, H0, pre, post⟩ := h
  refine rdL_len pre (PostG.bind (r := evL C (.cons a' (.cons c' .nil)) δ B) post) fun rs B1 H1 e1 a1 hl h1 vs hl2 hvs => ?_
  obtain ⟨ds, e2, h2⟩ := PostG.opt h1
  obtain ⟨x, y, rfl⟩ := two_of hl
  obtain ⟨v, w, rfl⟩ := two_of hl2
  obtain ⟨H2, b1, b2, b3, H3, b4, b5, b6, b7⟩ := hvs
  obtain ⟨d, f⟩ := x
  obtain ⟨d2, f2⟩ := y
  obtain ⟨fp, rf⟩ := b2.rf
  obtain ⟨fp2, rf2⟩ := b5.rf
  cases d with
  | int n =>
    cases d2 with
    | int m =>
      cases rf.int_
      cases rf2.int_
      have e2 : (if -1000000 ≤ n ∧ n ≤ 1000000 ∧ -1000000 ≤ m ∧ m ≤ 1000000 then some (rangeL n (m - n).toNat) else none) = some ds := e2
      split at e2
      · rename_i c
        cases e2
        exact ⟨n, m, rfl, ⟨by omega, by omega, by omega, by omega⟩, h2 H1 (.refl _ _) a1 _ [] (wlk_rng n (m - n).toNat) fun _ _ => .nil⟩
      · cases e2
    | _ => cases e2
  | _ => cases e2
theorem i_zip {a c : Expr} {a' c' : E} {q pos tpos : Pos} {elts : List Expr} {kk : Nat} (hK : p.K = X.K) (hg : Gl X "zip") (hm : X.mg "zip" = none) (ha : PA X [a, c] (rdL p C W (.cons a' (.cons c' .nil)))) (hs : starEach [a, c] X.env = (false, eval a X.env) :: starEach [c] X.env) (hpl : (backTo pos (starEach [c] X.env)).any (·.1) = false) :
    PI X (.Tuple elts kk tpos) (.Call (.Name "zip" q) [a, c] [] pos) (rdI p C W b (.zip (.cons a' (.cons c' .nil)))) := by
  refine (RZ.pi_zipA hg hm ha hs hpl).weak fun σ H R h => ?_
  obtain ⟨δ, B, Z, H0, pre, post⟩ := h
  refine rdL_len pre (PostG.bind (r := evL C (.cons a' (.cons c' .nil)) δ B) post) fun rs B1 H1 e1 a1 hl h1 vs hl2 hvs => ?_
  obtain ⟨cc, h1⟩ := lent_split h1
  obtain ⟨ds, e2, h2⟩ := PostG.opt h1
  obtain ⟨x, y, rfl⟩ := two_of hl
  obtain ⟨v, w, rfl⟩ := two_of hl2
  obtain ⟨b1, b2, _⟩ := hvs.each pre.ext
  have e2 : (match itemsR x, itemsR y with
    | some a, some b => if isLst x.d = isLst y.d then some ((a.zip b).map fun p => D.pr [p.1, p.2]) else none
    | _, _ => none) = some ds := e2
  cases ex : itemsR x with
  | none => rw [ex] at e2; cases e2
  | some l1 =>
    cases ey : itemsR y with
    | none => rw [ex, ey] at e2; cases e2
    | some l2 =>
      rw [ex, ey] at e2
      simp only at e2
      split at e2
      · rename_i same
        cases e2
        obtain ⟨c1, n1, vs1, q1, fs1, rfl, k1, s1, sh1, z1⟩ := itemsR_ok (.refl _ _) b1 ex
        obtain ⟨c2, n2, vs2, q2, fs2, rfl, k2, s2, sh2, z2⟩ := itemsR_ok (.refl _ _) b2 ey
        have lentF : b = true → Shd Z H0 (fs1 ++ fs2) := fun hb => by
          rw [hb] at cc
          simp only [Bool.true_and, List.any_cons, List.any_nil, Bool.or_false, Bool.or_eq_false_iff] at cc
          exact (z1 cc.1).app (z2 cc.2)
        have kk1 : c1 = c2 := by rw [k1, k2]; exact same
        subst kk1
        refine ⟨n1, n2, vs1, vs2, rfl, ?_⟩
        cases c1 with
        | true => exact .inl ⟨s1.sqL (.refl _), s2.sqL (.refl _), h2 H1 (.refl _ _) a1 _ _ (wlk_zipL s1 sh1 s2 sh2) fun hb _ => lentF hb⟩
        | false =>
          have w := wlk_zipT (Z := Z) (H0 := H0) s1 sh1 s2 sh2
          have u1 := s1.sqT (.refl _)
          have u2 := s2.sqT (.refl _)
          rw [hK] at w u1 u2
          exact .inr ⟨u1, u2, h2 H1 (.refl _ _) a1 _ _ w fun hb _ => lentF hb⟩
      · cases e2
theorem i_enum {a : Expr} {a' : E} {q pos tpos : Pos} {elts : List Expr} {kk : Nat} (hK : p.K = X.K) (hg : Gl X "enumerate") (hm : X.mg "enumerate" = none) (ha : PA X [a] (rdL p C W (.cons a' .nil))) (hs : starEach [a] X.env = [(false, eval a X.env)]) :
    PI X (.Tuple elts kk tpos) (.Call (.Name "enumerate" q) [a] [] pos) (rdI p C W b (.enum a')) := by
  refine (pi_en hg hm ha hs).weak fun σ H R h => ?_
  obtain ⟨δ, B, Z, H0, pre, post⟩ := h
  have post := PostG.bind (r := ev C a' false δ B) post
  have post2 : PostG p W σ H (evL C (.cons a' .nil) δ B) fun rs B1 H1 => ∃ x, rs = [x] ∧ PostG p W σ H1 (if (b && x.f.lent) = true then Res.st else opt (enumF x) B1) fun ds _ H' => ∀ J fs, Wlk p Z H0 ds J H' fs → (b = true → srcOk (.enum a') δ = true → Shd Z H0 fs) → R J H' := by
    show PostG p W σ H ((ev C a' false δ B).bind fun x B => (Res.ok [] B).bind fun xs B => .ok (x :: xs) B) _
    revert post
    cases ev C a' false δ B with
    | st => exact fun z => z
    | exc x B1 => exact fun z => z
    | ok x B1 => exact fun z H1 e1 a1 => ⟨x, rfl, z H1 e1 a1⟩
  refine rdL_len pre post2 fun rs B1 H1 e1 a1 hl ⟨x, hx, h1⟩ vs hl2 hvs => ?_
  subst hx
  obtain ⟨cc, h1⟩ := lent_split h1
  obtain ⟨ds, e2, h2⟩ := PostG.opt h1
  obtain ⟨v, rfl⟩ := one_of hl2
  obtain ⟨b1, _⟩ := hvs.each pre.ext
  unfold enumF at e2
  cases ex : itemsR x with
  | none => rw [ex] at e2; cases e2
  | some l =>
    rw [ex] at e2
    cases e2
    obtain ⟨c1, n1, vs1, q1, fs1, rfl, k1, s1, sh1, z1⟩ := itemsR_ok (.refl _ _) b1 ex
    have lentF : b = true → Shd Z H0 fs1 := fun hb => by
      rw [hb, Bool.true_and] at cc
      exact z1 cc
    refine ⟨n1, rfl, ?_⟩
    cases c1 with
    | true => exact .inl ⟨vs1, s1.sqL (.refl _), h2 H1 (.refl _ _) a1 _ _ (wlk_enumL s1 sh1) fun hb _ => lentF hb⟩
    | false =>
      have w := wlk_enumT (Z := Z) (H0 := H0) s1 sh1
      have u1 := s1.sqT (.refl _)
      rw [hK] at w u1
      exact .inr ⟨vs1, u1, h2 H1 (.refl _ _) a1 _ _ w fun hb _ => lentF hb⟩
end
end Wh

set_option maxHeartbeats 4000000
/-! Wh, part M: list comprehensions. -/
namespace Wh
open PySem PySem.Spec PyProof.Rows L2

/-- all but D -/
def era (H : Hp) (D : Addr) : Hp := fun a => if a = D then none else H a
section
variable {g : Addr} {H H' H1 : Hp} {D : Addr}
theorem era_ne {a : Addr} (h : a ≠ D) : era H D a = H a := if_neg h
theorem era_at : era H D D = none := if_pos rfl
theorem era_upd {o : HO} : era (upd H D o) D = era H D := by
  funext a
  by_cases h : a = D
  · subst h; rw [era_at, era_at]
  · rw [era_ne h, era_ne h, upd_ne h]
theorem upd_era {o : HO} (h : H D = some o) : upd (era H D) D o = H := by
  funext a
  by_cases e : a = D
  · subst e; rw [upd_same, h]
  · rw [upd_ne e, era_ne e]
theorem Ext.era (e : Ext g H H') (D : Addr) : Ext g (era H D) (era H' D) := fun a o h => by
  by_cases q : a = D
  · subst q; rw [era_at] at h; cases h
  · rw [era_ne q] at h
    rw [era_ne q]
    exact e a o h
theorem Ext.to_era (e : Ext g H1 H) (h : H1 D = none) : Ext g H1 (Wh.era H D) := fun a o q => by
  have : a ≠ D := fun z => by rw [z, h] at q; cases q
  rw [era_ne this]
  exact e a o q
theorem Ext.upd (e : Ext g H1 H) (h : H1 D = none) (o : HO) : Ext g H1 (upd H D o) := fun a o' q => by
  have : a ≠ D := fun z => by rw [z, h] at q; cases q
  rw [upd_ne this]
  exact e a o' q
theorem Tabs_upd {T : List (Addr × Str)} {o o' : HO} (t : LamX.Tabs T H) (h : H D = some o) (m : Chg o := by exact True.intro) : LamX.Tabs T (upd H D o') := fun q hq => by
  obtain ⟨ps, h1, h2, h3⟩ := t q hq
  refine ⟨ps, ?_, h2, fun pos cv hc => ?_⟩
  · rw [upd_ne fun z => by rw [z, h] at h1; cases h1; exact m]; exact h1
  · obtain ⟨c, e1, e2⟩ := h3 pos cv hc
    exact ⟨c, e1, by rw [upd_ne fun z => by rw [z, h] at e2; cases e2; exact m]; exact e2⟩
theorem Amb.upd {p : Pl} {B : Bag} {o o' : HO} (a : Amb p B H) (h : H D = some o) (n1 : D ≠ p.g) (n2 : D ≠ p.gc) (m : Chg o := by exact True.intro) : Amb p B (upd H D o') :=
  ⟨⟨by rw [upd_ne n1.symm]; exact a.bag.root, by rw [upd_ne n2.symm]; exact a.bag.row, a.bag.ne, a.bag.big, a.bag.seed, a.bag.cells⟩, Tabs_upd a.tabs h m⟩
theorem Amb.nots {p : Pl} {B : Bag} (a : Amb p B H1) (h : H1 D = none) : D ≠ p.g ∧ D ≠ p.gc := ⟨fun z => (by rw [z, a.bag.root] at h; cases h), fun z => (by rw [z, a.bag.row] at h; cases h)⟩
end
section
variable {p : Pl} {Z Z' : Addr → Prop} {H0 : Hp}
theorem EnvV.mono {δ : Env} {σ : L2.St} {H : Hp} (h : EnvV p Z δ σ H) (m : ∀ b, Z b → (∃ o, H b = some o ∧ Chg o) → Z' b) : EnvV p Z' δ σ H := ⟨h.len, fun i md d q => by
  obtain ⟨v, fp, h1, h2, h3⟩ := h.at_ i md d q
  refine ⟨v, fp, h1, h2, ?_⟩
  cases md with
  | S => exact fun b hb => m b (h3 b hb) (h2.there b hb)
  | R =>
    obtain ⟨a, r, e, h4⟩ := h3
    exact ⟨a, r, e, fun b hb => m b (h4 b hb) (h2.there b (e ▸ List.mem_cons_of_mem _ hb))⟩
  | D => trivial⟩
/-- a turn's value, the new list left out -/
theorem VR.era {Ht Hs H4 : Hp} {D : Addr} {ot oy : HO} {r : RV} {v : V} (h : VR p Z' Ht Hs r v H4) (hl : r.f.lent = false) (hz : ∀ b, Z' b → (Z b ∨ H0 b = none) ∧ b ≠ D) (ht : Ht D = some ot) (h0 : ∀ b, Ht b = none → H0 b = none) (es : Ext p.g Ht Hs) (h4 : H4 D = some oy) (my : Chg oy := by exact True.intro) :
    VR p Z H0 (Wh.era Hs D) r v (Wh.era H4 D) := by
  obtain ⟨fp, h1, h2⟩ := h
  have hsD : ∀ a, Hs a = none → a ≠ D := fun a q z => by
    obtain ⟨⟨o, h5⟩, _⟩ := es D _ ht
    rw [z, h5] at q; cases q
  have conv : ∀ b, Z' b ∨ Ht b = none → (Z b ∨ H0 b = none) ∧ b ≠ D := fun b q => q.elim (hz b) fun q => ⟨.inr (h0 b q), fun z => by rw [z, ht] at q; cases q⟩
  have fin : D ∉ fp → Rf p (Wh.era H4 D) v r.d fp := fun hn => h1.keep ⟨.but h4 (fun a n => era_ne n) my, fun a ha vs q _ n => (by rw [era_ne fun z => hn (by rw [← z]; exact ha)]; exact q)⟩
  have er : ∀ a, Hs a = none → Wh.era Hs D a = none := fun a q => by rw [era_ne (hsD a q)]; exact q
  obtain ⟨d, f⟩ := r
  cases f with
  | D => exact ⟨fp, fin fun z => hsD D (h2.2 D z) rfl, h2.1, fun a ha => er a (h2.2 a ha)⟩
  | R =>
    obtain ⟨a, q, e, k1, k2, k3⟩ := h2
    refine ⟨fp, fin fun z => ?_, a, q, e, er a k1, k2, fun b hb => (conv b (k3 b hb)).1⟩
    rw [e] at z
    rcases List.mem_cons.mp z with z | z
    · exact hsD a k1 z.symm
    · exact (conv D (k3 D z)).2 rfl
  | S => exact ⟨fp, fin fun z => (conv D (h2 D z)).2 rfl, fun b hb => (conv b (h2 b hb)).1⟩
  | BR => cases hl
  | BD => cases hl
theorem VRL.snoc {r : RV} {v : V} : ∀ {Hs Ha Hb H : Hp} {rs : List RV} {vs : List V}, VRL p Z H0 Hs rs vs Ha → Ext p.g Hs Ha → Ext p.g Ha Hb → VR p Z H0 Hb r v H → Ext p.g Hb H → VRL p Z H0 Hs (rs ++ [r]) (vs ++ [v]) H
  | Hs, Ha, Hb, H, [], [], _, e1, e2, h, e3 => ⟨H, (e1.trans e2).trans e3, h.back (e1.trans e2), .refl _ _, trivial⟩
  | Hs, Ha, Hb, H, x :: rs, y :: vs, ⟨H1, a, b, c, d⟩, e1, e2, h, e3 => ⟨H1, a, b, (c.trans e2).trans e3, VRL.snoc d c e2 h e3⟩
  | _, _, _, _, [], _ :: _, h, _, _, _, _ => h.elim
  | _, _, _, _, _ :: _, [], h, _, _, _, _ => h.elim
end
/-- no exceptions within a comprehension -/
abbrev WF : WX := fun _ _ _ _ => False
def rdC (p : Pl) (C : Cs) (W : WX) (l : EL) : TT := fun σ H Q => ∃ δ B Z H0, Pre p δ B Z H0 σ H ∧ PostG p W σ H (evC C l δ B) fun b _ H' => Q b H'
theorem of_ok {p : Pl} {W : WX} {σ : L2.St} {H : Hp} {α : Type} {r : Res α} {a : α} {B : Bag} {k : α → Bag → Hp → Prop} (e : r = .ok a B) (h : ∀ H', Ext p.g H H' → Amb p B H' → k a B H') : PostG p W σ H r k := by
  subst e; exact h
theorem compGo_noexc {f : D → Bag → Res (List RV)} : ∀ {l : List D} {B B' : Bag} {x : Exn}, compGo f l B ≠ .exc x B'
  | [], _, _, _, h => by cases h
  | d :: r, B, B', x, h => by
    have h : (noexc (f d B)).bind (fun xs B => (compGo f r B).bind fun ys B => .ok (xs ++ ys) B) = .exc x B' := h
    cases q : f d B with
    | st => rw [q] at h; cases h
    | exc y B1 => rw [q] at h; cases h
    | ok a B1 =>
      rw [q] at h
      have h : (compGo f r B1).bind (fun ys B => .ok (a ++ ys) B) = .exc x B' := h
      cases q2 : compGo f r B1 with
      | st => rw [q2] at h; cases h
      | exc y B2 => exact compGo_noexc q2
      | ok b B2 => rw [q2] at h; cases h
theorem compGo_cons {f : D → Bag → Res (List RV)} {d : D} {r : List D} {B B' : Bag} {l : List RV} (h : compGo f (d :: r) B = .ok l B') : ∃ xs B1 ys, f d B = .ok xs B1 ∧ compGo f r B1 = .ok ys B' ∧ l = xs ++ ys := by
  obtain ⟨xs, B1, h1, h2⟩ := bind_ok (r := noexc (f d B)) h
  obtain ⟨ys, B2, h3, h4⟩ := bind_ok h2
  cases h4
  refine ⟨xs, B1, ys, ?_, h3, rfl⟩
  cases q : f d B with
  | st => rw [q] at h1; cases h1
  | exc y B1 => rw [q] at h1; cases h1
  | ok a B1 => rw [q] at h1; exact h1
theorem cap_ok {r : Res (List RV)} {l : List RV} {B : Bag} (h : cap r = .ok l B) : r = .ok l B ∧ l.length ≤ 1000000 := by
  cases r with
  | st => cases h
  | exc x B1 => cases h
  | ok a B1 =>
    have h : (if a.length ≤ 1000000 then Res.ok a B1 else .st) = .ok l B := h
    split at h
    · rename_i c
      cases h
      exact ⟨rfl, c⟩
    · cases h
/-- what a comprehension's loop came to -/
theorem cap_post {p : Pl} {W : WX} {σ : L2.St} {H : Hp} {f : D → Bag → Res (List RV)} {ds : List D} {B : Bag} {k : List RV → Bag → Hp → Prop} (h : PostG p W σ H (cap (compGo f ds B)) k) : ∃ l B2, compGo f ds B = .ok l B2 ∧ l.length ≤ 1000000 ∧ ∀ H', Ext p.g H H' → Amb p B2 H' → k l B2 H' := by
  cases q : compGo f ds B with
  | st => rw [q] at h; exact h.elim
  | exc x B1 => exact (compGo_noexc q).elim
  | ok l B2 =>
    rw [q] at h
    have h : PostG p W σ H (if l.length ≤ 1000000 then Res.ok l B2 else .st) k := h
    split at h
    · rename_i c
      exact ⟨l, B2, rfl, c, h⟩
    · exact h.elim
theorem wipe_idem (σ : L2.St) (ws : List Nat) : L2.wipe (L2.wipe σ ws) ws = L2.wipe σ ws := by
  apply List.ext_getElem?
  intro j
  by_cases hj : j ∈ ws
  · have both : ∀ (τ : L2.St) (us : List Nat), j ∈ us → (L2.wipe τ us)[j]? = if j < τ.length then some none else none := fun τ us => by
      intro h
      induction us with
      | nil => cases h
      | cons w us ih =>
        unfold L2.wipe
        by_cases e : w = j
        · subst e
          by_cases hl : w < (L2.wipe τ us).length
          · rw [List.getElem?_set_self hl, if_pos (by rw [← wipe_length τ us]; exact hl)]
          · rw [List.getElem?_eq_none (by simpa using hl), if_neg (by rw [← wipe_length τ us]; exact hl)]
        · rw [List.getElem?_set_ne e]
          exact ih ((List.mem_cons.mp h).resolve_left fun z => e z.symm)
    rw [both _ ws hj, both _ ws hj, wipe_length]
  · rw [wipe_out hj]

section
variable {p : Pl} {C : Cs} {W : WX}
theorem era_ext {g : Addr} {H : Hp} {D : Addr} : Ext g (Wh.era H D) H := fun a o h => by
  by_cases q : a = D
  · subst q; rw [era_at] at h; cases h
  · rw [era_ne q] at h
    exact ⟨⟨o, h⟩, fun _ _ => h⟩
theorem Rf.to_era {H : Hp} {D : Addr} {v : V} {d : Wh.D} {fp : List Addr} {o : HO} (h : Rf p H v d fp) (hD : H D = some o) (hn : D ∉ fp) (m : Chg o := by exact True.intro) : Rf p (Wh.era H D) v d fp :=
  h.keep ⟨.but hD (fun a n => era_ne n) m, fun a ha vs q _ n => (by rw [era_ne fun z => hn (by rw [← z]; exact ha)]; exact q)⟩
/-- one turn: from the target to the new item -/
theorem comp_turn {ws : List Nat} {e' : E} {t : Tg} {c : EL} {σw : L2.St} {δw : Env} {Z Z' : Addr → Prop} {H0 H1 Hx : Hp} {D : Addr} {acc : List V} {x : V} {d' : Wh.D} {fp1 : List Addr} {Bi B3 : Bag} {xs x1 : List RV} {Nx : Hp → Prop}
    (hsl : ∀ i ∈ t.slots, i ∈ ws) (hZ : ∀ b, Z' b → (Z b ∨ H0 b = none) ∧ b ≠ D) (env : EnvV p Z' δw σw (era Hx D)) (hD : Hx D = some (.lst acc)) (nD1 : D ≠ p.g) (nD2 : D ≠ p.gc) (am : Amb p Bi Hx) (rf : Rf p (era Hx D) x d' fp1) (hfp : ∀ b ∈ fp1, Z' b) (low : ∀ b, Hx b = none → H0 b = none)
    (f1 : (match asgTg t ⟨d', .S⟩ δw with
      | some δ' => (evC C c δ' Bi).bind fun ok B => if ok then ((ev C e' false δ' B).bind fun r B => if r.f.lent then .st else .ok [r] B) else .ok [] B
      | none => .st) = .ok x1 B3)
    (e1 : Ext p.g H1 (era Hx D)) (vrl : VRL p Z H0 H1 xs acc (era Hx D)) (hlen : xs.length + x1.length ≤ 1000000)
    (hNx : ∀ Hn acc', Ext p.g (era Hx D) (era Hn D) → Amb p B3 Hn → Hn D = some (.lst acc') → VRL p Z H0 H1 (xs ++ x1) acc' (era Hn D) → Nx Hn) :
    rdG p t x σw Hx fun σ2 H2 => L2.wipe σ2 ws = L2.wipe σw ws ∧ rdC p C WF c σ2 H2 fun b H3 => if b = true then rdE p C WF e' σ2 H3 fun y H4 => ∃ acc2, H4 D = some (.lst acc2) ∧ acc2.length < sizeLine ∧ Nx (upd H4 D (.lst (acc2 ++ [y]))) else Nx H3 := by
  cases q : asgTg t ⟨d', .S⟩ δw with
  | none => rw [q] at f1; cases f1
  | some δ' =>
    rw [q] at f1
    obtain ⟨b, B4, g1, g2⟩ := bind_ok f1
    refine ⟨Z', δw, d', fp1, δ', era Hx D, era_ext, env, rf, hfp, q, fun σ' env' hw => ⟨hw ws hsl, ?_⟩⟩
    have p3 : Pre p δ' Bi Z' Hx σ' Hx := ⟨env'.ext era_ext, .refl _ _, am⟩
    refine ⟨δ', Bi, Z', Hx, p3, of_ok g1 fun H3 e3 a3 => ?_⟩
    cases b with
    | false =>
      rw [if_neg Bool.false_ne_true] at g2 ⊢
      cases g2
      refine hNx H3 acc (e3.era D) a3 (e3.at hD nD1 fun _ z => by cases z) ?_
      rw [List.append_nil]
      exact vrl.ext (e3.era D)
    | true =>
      rw [if_pos rfl] at g2 ⊢
      obtain ⟨r, B5, k1, k2⟩ := bind_ok g2
      refine ⟨δ', B4, Z', Hx, p3.at e3 a3, of_ok k1 fun H4 e4 a4 v hv => ?_⟩
      have hD4 : H4 D = some (.lst acc) := e4.at (e3.at hD nD1 fun _ z => by cases z) nD1 fun _ z => by cases z
      split at k2
      · cases k2
      · rename_i nl
        cases k2
        have nl : r.f.lent = false := by simpa using nl
        have la : acc.length < 1000000 := by
          have h5 := vrl.length
          have h6 : [r].length = 1 := rfl
          omega
        refine ⟨acc, hD4, by rw [sizeLine_eq]; omega, hNx (upd H4 D (.lst (acc ++ [v]))) (acc ++ [v]) ?_ (a4.upd hD4 nD1 nD2) upd_same ?_⟩
        · rw [era_upd]
          exact (e3.trans e4).era D
        · rw [era_upd]
          exact vrl.snoc e1 (e3.era D) (hv.era nl hZ hD low e3 hD4) (e4.era D)
/-- one clause -/
theorem comp1 {ws : List Nat} {e' : E} {t : Tg} {s' : Src} {c : EL} {σ : L2.St} {H : Hp} {Q : VK} (hsl : ∀ i ∈ t.slots, i ∈ ws) (h : rdE p C W (.comp ws e' (.one t s' c)) σ H Q) : tLc (rdI p C W false s') (rdG p t) (rdC p C WF c) (rdE p C WF e') ws σ H Q := by
  obtain ⟨δ, B, Z, H0, pre, post⟩ := h
  have post := PostG.bind (r := evG C (fun δ B => (ev C e' false δ B).bind fun r B => if r.f.lent then .st else .ok [r] B) ws (.one t s' c) δ B) post
  have post := PostG.bind (r := evS C false s' δ B) post
  refine ⟨δ, B, Z, H0, pre, post.mono fun ds B1 H1 e1 a1 h1 J fs wlk _ D hD => ?_⟩
  obtain ⟨l, B2, hgo, hlen, h2⟩ := cap_post h1
  clear h1 post
  obtain ⟨nD1, nD2⟩ := a1.nots hD
  have e01 : Ext p.g H0 H1 := pre.ext.trans e1
  have h0D : H0 D = none := e01.free hD
  generalize hF : (fun (d : Wh.D) (B : Bag) => match asgTg t ⟨d, .S⟩ (δ.wipe ws) with
      | some δ' => (evC C c δ' B).bind fun ok B => if ok then ((fun δ B => (ev C e' false δ B).bind fun r B => if r.f.lent then .st else .ok [r] B) δ' B) else .ok [] B
      | none => .st) = F at hgo
  let Z' : Addr → Prop := fun a => (Z a ∨ H0 a = none) ∧ a ≠ D
  let St : Nat → Hp → Prop := fun i H => i ≤ ds.length ∧ ∃ Bi xs ys acc, compGo F (ds.drop i) Bi = .ok ys B2 ∧ l = xs ++ ys ∧ Ext p.g H1 (era H D) ∧ Amb p Bi H ∧ H D = some (.lst acc) ∧ VRL p Z H0 H1 xs acc (era H D)
  refine ⟨fun i m H => m = ds.length - i ∧ St i H, ⟨ds.length, rfl, Nat.zero_le _, B1, [], l, [], by simpa using hgo, rfl, ?_, ?_, upd_same, trivial⟩, ?_⟩
  · rw [era_upd]
    exact (Ext.refl _ _).to_era hD
  · exact a1.same (Same.new hD)
  rintro i m H2 ⟨rfl, hi, Bi, xs, ys, acc, hg, hl, e2e, a2, hacc, vrl⟩
  have e2 : Ext p.g H1 H2 := e2e.trans era_ext
  have kp : Keeps p H1 H2 fs := .of_ext e2 fs
  rcases Nat.lt_or_ge i ds.length with hlt | hge
  · -- a turn
    have hdrop : ds.drop i = ds[i] :: ds.drop (i + 1) := by rw [List.drop_eq_getElem_cons hlt]
    rw [hdrop] at hg
    obtain ⟨x1, B3, y1, f1, f2, f3⟩ := compGo_cons hg
    refine .inr ⟨wlk.go i H2 kp hlt, St (i + 1), fun H' st => ⟨ds.length - (i + 1), by omega, rfl, st⟩, fun x H' y => ?_⟩
    obtain ⟨sm, d', fp1, hd', rf, shd, sub⟩ := wlk.yld i H2 x H' kp a2.there hlt y
    have hd' : ds[i] = d' := by rw [List.getElem?_eq_getElem hlt] at hd'; exact Option.some.inj hd'
    rw [hd', ← hF] at f1
    have e2' : Ext p.g H2 H' := .of_same sm
    have hD' : H' D = some (.lst acc) := sm _ _ hacc
    have e1' : Ext p.g H1 (era H' D) := e2e.trans (e2'.era D)
    have nf : D ∉ fp1 := fun z => wlk.th D (sub D z) hD
    have env : EnvV p Z' (δ.wipe ws) (L2.wipe σ ws) (era H' D) := ((pre.env.mono (Z' := Z') fun b hb ⟨us, hu, _⟩ => ⟨.inl hb, fun z => by rw [z, h0D] at hu; cases hu⟩).ext (e01.trans e1')).wipe ws
    have := comp_turn (Nx := St (i + 1)) (Z := Z) (H0 := H0) (H1 := H1) (xs := xs) hsl (fun b hb => hb) env hD' nD1 nD2 (a2.same sm) (rf.to_era hD' nf) (fun b hb => ⟨shd b hb, fun z => nf (z ▸ hb)⟩) (fun b q => ((e01.trans e2).trans e2').free q) f1 e1' (vrl.ext (e2'.era D)) ?_ ?_
    · rw [wipe_idem] at this
      exact this
    · have h6 : l.length = xs.length + (x1.length + y1.length) := by rw [hl, f3, List.length_append, List.length_append]
      omega
    · intro Hn acc' en an hn vn
      exact ⟨hlt, B3, xs ++ x1, y1, acc', f2, by rw [hl, f3, List.append_assoc], e1'.trans en, an, hn, vn⟩
  · have hi' : i = ds.length := Nat.le_antisymm hi hge
    subst hi'
    refine .inl ⟨wlk.stop H2 kp, ?_⟩
    rw [List.drop_length] at hg
    cases hg
    have hl : l = xs := by rw [hl, List.append_nil]
    subst hl
    have h3 := h2 H2 e2 a2
    obtain ⟨r, hr, h4⟩ := PostG.opt (PostG.bind h3)
    refine h4 H2 (.refl _ _) a2 H2 (.refl _ _) a2 (.ref D) ?_
    have := flagL_ok e01 vrl e2e era_at ?_ hr
    · rw [upd_era hacc] at this
      exact this.back e1
    · obtain ⟨o, ho⟩ := a2.there
      exact ⟨o, by rw [era_ne nD1.symm]; exact ho⟩
/-- two clauses -/
theorem comp2 {ws ws2 : List Nat} {e' : E} {t t2 : Tg} {s' s2 : Src} {c c2 : EL} {σ : L2.St} {H : Hp} {Q : VK} (hsl : ∀ i ∈ t.slots, i ∈ ws) (hsl2 : ∀ i ∈ t2.slots, i ∈ ws2) (h : rdE p C W (.comp ws e' (.two t s' c ws2 t2 s2 c2)) σ H Q) :
    tLc2 (rdI p C W false s') (rdG p t) (rdC p C WF c) (rdI p C WF true s2) (rdG p t2) (rdC p C WF c2) (rdE p C WF e') ws ws2 σ H Q := by
  obtain ⟨δ, B, Z, H0, pre, post⟩ := h
  have post := PostG.bind (r := evG C (fun δ B => (ev C e' false δ B).bind fun r B => if r.f.lent then .st else .ok [r] B) ws (.two t s' c ws2 t2 s2 c2) δ B) post
  have post := PostG.bind (r := evS C false s' δ B) post
  refine ⟨δ, B, Z, H0, pre, post.mono fun ds B1 H1 e1 a1 h1 J fs wlk _ D hD => ?_⟩
  obtain ⟨l, B2, hgo, hlen, h2⟩ := cap_post h1
  clear h1 post
  obtain ⟨nD1, nD2⟩ := a1.nots hD
  have e01 : Ext p.g H0 H1 := pre.ext.trans e1
  have h0D : H0 D = none := e01.free hD
  let G : Env → Wh.D → Bag → Res (List RV) := fun δ' d2 B => match asgTg t2 ⟨d2, .S⟩ (δ'.wipe ws2) with
      | some δ2 => (evC C c2 δ2 B).bind fun ok B => if ok then ((ev C e' false δ2 B).bind fun r B => if r.f.lent then .st else .ok [r] B) else .ok [] B
      | none => .st
  generalize hF : (fun (d : Wh.D) (B : Bag) => match asgTg t ⟨d, .S⟩ (δ.wipe ws) with
      | some δ' => (evC C c δ' B).bind fun ok B => if ok then (if srcOk s2 δ' then (evS C true s2 δ' B).bind fun l2 B => compGo (G δ') l2 B else .st) else .ok [] B
      | none => .st) = F
  have hgo : compGo F ds B1 = .ok l B2 := by rw [← hF]; exact hgo
  let Z' : Addr → Prop := fun a => (Z a ∨ H0 a = none) ∧ a ≠ D
  let St : Nat → Hp → Prop := fun i H => i ≤ ds.length ∧ ∃ Bi xs ys acc, compGo F (ds.drop i) Bi = .ok ys B2 ∧ l = xs ++ ys ∧ Ext p.g H1 (era H D) ∧ Amb p Bi H ∧ H D = some (.lst acc) ∧ VRL p Z H0 H1 xs acc (era H D)
  refine ⟨fun i m H => m = ds.length - i ∧ St i H, ⟨ds.length, rfl, Nat.zero_le _, B1, [], l, [], by simpa using hgo, rfl, ?_, ?_, upd_same, trivial⟩, ?_⟩
  · rw [era_upd]
    exact (Ext.refl _ _).to_era hD
  · exact a1.same (Same.new hD)
  rintro i m H2 ⟨rfl, hi, Bi, xs, ys, acc, hg, hl, e2e, a2, hacc, vrl⟩
  have e2 : Ext p.g H1 H2 := e2e.trans era_ext
  have kp : Keeps p H1 H2 fs := .of_ext e2 fs
  rcases Nat.lt_or_ge i ds.length with hlt | hge
  · -- a turn
    have hdrop : ds.drop i = ds[i] :: ds.drop (i + 1) := by rw [List.drop_eq_getElem_cons hlt]
    rw [hdrop] at hg
    obtain ⟨x1, B3, y1, f1, f2, f3⟩ := compGo_cons hg
    refine .inr ⟨wlk.go i H2 kp hlt, St (i + 1), fun H' st => ⟨ds.length - (i + 1), by omega, rfl, st⟩, fun x H' y => ?_⟩
    obtain ⟨sm, d', fp1, hd', rf, shd, sub⟩ := wlk.yld i H2 x H' kp a2.there hlt y
    have hd' : ds[i] = d' := by rw [List.getElem?_eq_getElem hlt] at hd'; exact Option.some.inj hd'
    rw [hd', ← hF] at f1
    have e2' : Ext p.g H2 H' := .of_same sm
    have hD' : H' D = some (.lst acc) := sm _ _ hacc
    have e1' : Ext p.g H1 (era H' D) := e2e.trans (e2'.era D)
    have nf : D ∉ fp1 := fun z => wlk.th D (sub D z) hD
    have env : EnvV p Z' (δ.wipe ws) (L2.wipe σ ws) (era H' D) := ((pre.env.mono (Z' := Z') fun b hb ⟨us, hu, _⟩ => ⟨.inl hb, fun z => by rw [z, h0D] at hu; cases hu⟩).ext (e01.trans e1')).wipe ws
    have hl6 : l.length = xs.length + (x1.length + y1.length) := by rw [hl, f3, List.length_append, List.length_append]
    have low' : ∀ b, H' b = none → H0 b = none := fun b q => ((e01.trans e2).trans e2').free q
    cases q : asgTg t ⟨d', .S⟩ (δ.wipe ws) with
    | none => simp only [q] at f1; cases f1
    | some δ' =>
      simp only [q] at f1
      obtain ⟨b, B4, g1, g2⟩ := bind_ok f1
      refine ⟨Z', δ.wipe ws, d', fp1, δ', era H' D, era_ext, env, rf.to_era hD' nf, fun b hb => ⟨shd b hb, fun z => nf (z ▸ hb)⟩, q, fun σ' env' hw => ⟨by rw [hw ws hsl, wipe_idem], ?_⟩⟩
      have p3 : Pre p δ' Bi Z' H' σ' H' := ⟨env'.ext era_ext, .refl _ _, a2.same sm⟩
      refine ⟨δ', Bi, Z', H', p3, of_ok g1 fun H3 e3 a3 => ?_⟩
      have nextS : ∀ Hn acc', Ext p.g (era H3 D) (era Hn D) → Amb p B3 Hn → Hn D = some (.lst acc') → VRL p Z H0 H1 (xs ++ x1) acc' (era Hn D) → St (i + 1) Hn := fun Hn acc' en an hn vn =>
        ⟨hlt, B3, xs ++ x1, y1, acc', f2, by rw [hl, f3, List.append_assoc], (e1'.trans (e3.era D)).trans en, an, hn, vn⟩
      have hD3 : H3 D = some (.lst acc) := e3.at hD' nD1 fun _ z => by cases z
      have vrl3 : VRL p Z H0 H1 xs acc (era H3 D) := vrl.ext ((e2'.trans e3).era D)
      show (if b = true then _ else _)
      cases b with
      | false =>
        rw [if_neg Bool.false_ne_true] at g2 ⊢
        cases g2
        refine nextS H3 acc (.refl _ _) a3 hD3 ?_
        rw [List.append_nil]
        exact vrl3
      | true =>
        rw [if_pos rfl] at g2 ⊢
        split at g2
        · rename_i hsrc
          obtain ⟨l2, B5, k1, k2⟩ := bind_ok g2
          refine ⟨δ', B4, Z', H', p3.at e3 a3, of_ok k1 fun H4 e4 a4 J1 fs2 wlk2 sh2 => ?_⟩
          have sh2 := sh2 rfl hsrc
          have n2 : ∀ b ∈ fs2, Z' b ∧ b ≠ D := fun b hb => (sh2 b hb).elim (fun z => ⟨z, z.2⟩) fun z => ⟨⟨.inr (low' b z), fun y => by rw [y, hD'] at z; cases z⟩, fun y => by rw [y, hD'] at z; cases z⟩
          have hD4 : H4 D = some (.lst acc) := e4.at hD3 nD1 fun _ z => by cases z
          let S2 : Nat → Hp → Prop := fun j H => j ≤ l2.length ∧ ∃ Bj xs' ys' acc', compGo (G δ') (l2.drop j) Bj = .ok ys' B3 ∧ x1 = xs' ++ ys' ∧ Ext p.g (era H4 D) (era H D) ∧ Amb p Bj H ∧ H D = some (.lst acc') ∧ VRL p Z H0 H1 (xs ++ xs') acc' (era H D)
          refine ⟨fun j m H => m = l2.length - j ∧ S2 j H, ⟨l2.length, rfl, Nat.zero_le _, B5, [], x1, acc, by simpa using k2, rfl, .refl _ _, a4, hD4, ?_⟩, ?_⟩
          · rw [List.append_nil]
            exact vrl3.ext (e4.era D)
          rintro j m H5 ⟨rfl, hj, Bj, xs', ys', acc', hgj, hlj, e5, a5, hD5, vrl5⟩
          have kp2 : Keeps p H4 H5 fs2 := ⟨fun a o q ql qt n => by
            have na : a ≠ D := fun z => by
              rw [z, hD4] at q
              exact ql (Option.some.inj q ▸ True.intro)
            have := e5.at (a := a) (o := o) (by rw [era_ne na]; exact q) n qt
            rwa [era_ne na] at this, fun a ha o q m n => by
            have na : a ≠ D := (n2 a ha).2
            have := e5.at (a := a) (o := o) (by rw [era_ne na]; exact q) n m.ntbl
            rwa [era_ne na] at this⟩
          have e34 : Ext p.g (era H3 D) (era H5 D) := (e4.era D).trans e5
          rcases Nat.lt_or_ge j l2.length with hlt2 | hge2
          · have hdrop2 : l2.drop j = l2[j] :: l2.drop (j + 1) := by rw [List.drop_eq_getElem_cons hlt2]
            rw [hdrop2] at hgj
            obtain ⟨x2, B6, y2, w1, w2, w3⟩ := compGo_cons hgj
            refine .inr ⟨wlk2.go j H5 kp2 hlt2, S2 (j + 1), fun H' st => ⟨l2.length - (j + 1), by omega, rfl, st⟩, fun x' H6 y' => ?_⟩
            obtain ⟨sm2, d2, fp2, hd2, rf2, shd2, sub2⟩ := wlk2.yld j H5 x' H6 kp2 a5.there hlt2 y'
            have hd2 : l2[j] = d2 := by rw [List.getElem?_eq_getElem hlt2] at hd2; exact Option.some.inj hd2
            rw [hd2] at w1
            have e6 : Ext p.g H5 H6 := .of_same sm2
            have hD6 : H6 D = some (.lst acc') := sm2 _ _ hD5
            have e36 : Ext p.g (era H' D) (era H6 D) := ((e3.era D).trans e34).trans (e6.era D)
            have e16 : Ext p.g H1 (era H6 D) := e1'.trans e36
            have nf2 : D ∉ fp2 := fun z => (n2 D (sub2 D z)).2 rfl
            have this := comp_turn (Nx := S2 (j + 1)) (Z := Z) (H0 := H0) (H1 := H1) (xs := xs ++ xs') hsl2 (fun b hb => hb) ((env'.ext e36).wipe ws2) hD6 nD1 nD2 (a5.same sm2) (rf2.to_era hD6 nf2) (fun b hb => (n2 b (sub2 b hb)).1) (fun b q => ((e01.trans (e16.trans era_ext))).free q) w1 e16 (vrl5.ext (e6.era D)) ?_ ?_
            · rw [wipe_idem] at this
              exact this
            · have h7 : x1.length = xs'.length + (x2.length + y2.length) := by rw [hlj, w3, List.length_append, List.length_append]
              rw [List.length_append]
              omega
            · intro Hn acc2 en an hn vn
              rw [List.append_assoc] at vn
              exact ⟨hlt2, B6, xs' ++ x2, y2, acc2, w2, by rw [hlj, w3, List.append_assoc], (e5.trans (e6.era D)).trans en, an, hn, vn⟩
          · have hj' : j = l2.length := Nat.le_antisymm hj hge2
            subst hj'
            refine .inl ⟨wlk2.stop H5 kp2, ?_⟩
            rw [List.drop_length] at hgj
            cases hgj
            rw [List.append_nil] at hlj
            subst hlj
            exact nextS H5 acc' e34 a5 hD5 vrl5
        · cases g2
  · have hi' : i = ds.length := Nat.le_antisymm hi hge
    subst hi'
    refine .inl ⟨wlk.stop H2 kp, ?_⟩
    rw [List.drop_length] at hg
    cases hg
    have hl : l = xs := by rw [hl, List.append_nil]
    subst hl
    have h3 := h2 H2 e2 a2
    obtain ⟨r, hr, h4⟩ := PostG.opt (PostG.bind h3)
    refine h4 H2 (.refl _ _) a2 H2 (.refl _ _) a2 (.ref D) ?_
    have := flagL_ok e01 vrl e2e era_at ?_ hr
    · rw [upd_era hacc] at this
      exact this.back e1
    · obtain ⟨o, ho⟩ := a2.there
      exact ⟨o, by rw [era_ne nD1.symm]; exact ho⟩
end
end Wh

set_option maxHeartbeats 4000000
/-! Wh, part Md: dict comprehensions. -/
namespace Wh
open PySem PySem.Spec PyProof.Rows L2

section
variable {p : Pl} {C : Cs} {W : WX}
/-- {k: v for one in ..} -/
theorem dcomp1 {ws : List Nat} {ke ve : E} {t : Tg} {s' : Src} {c : EL} {σ : L2.St} {H : Hp} {Q : VK} (hsl : ∀ i ∈ t.slots, i ∈ ws) (h : rdE p C W (.dcomp ws ke ve (.one t s' c)) σ H Q) : tDc (rdI p C W false s') (rdG p t) (rdC p C WF c) (rdE p C WF ke) (rdE p C WF ve) ws σ H Q := by
  obtain ⟨δ, B, Z, H0, pre, post⟩ := h
  generalize hG : (fun (δ : Env) (B : Bag) => (ev C ke false δ B).bind fun a B => (ev C ve false δ B).bind fun r B => match keyOf a.d with
      | some _ => if r.d.flat then Res.ok [RV.mk (.pr [a.d, r.d]) .D] B else .st
      | none => .st) = G
  have post : PostG p W σ H ((evG C G ws (.one t s' c) δ B).bind fun l B => (opt (dctOf l []) B).bind fun r B => asTest false ⟨.dct r, .D⟩ B) (fun r x H' => ∀ (v : V), VR p Z H0 H r v H' → Q v H') := by
    rw [← hG]; exact post
  have post := PostG.bind (r := evG C G ws (.one t s' c) δ B) post
  have post := PostG.bind (r := evS C false s' δ B) post
  refine ⟨δ, B, Z, H0, pre, post.mono fun ds B1 H1 e1 a1 h1 J fs wlk _ D hD => ?_⟩
  obtain ⟨l, B2, hgo, hlen, h2⟩ := cap_post h1
  clear h1 post
  obtain ⟨nD1, nD2⟩ := a1.nots hD
  have e01 : Ext p.g H0 H1 := pre.ext.trans e1
  have h0D : H0 D = none := e01.free hD
  generalize hF : (fun (d : Wh.D) (B : Bag) => match asgTg t ⟨d, .S⟩ (δ.wipe ws) with
      | some δ' => (evC C c δ' B).bind fun ok B => if ok then G δ' B else .ok [] B
      | none => .st) = F at hgo
  let Z' : Addr → Prop := fun a => (Z a ∨ H0 a = none) ∧ a ≠ D
  let St : Nat → Hp → Prop := fun i H => i ≤ ds.length ∧ ∃ Bi xs ys kvs dl, compGo F (ds.drop i) Bi = .ok ys B2 ∧ l = xs ++ ys ∧ dctOf xs [] = some dl ∧ dl.length ≤ xs.length ∧ Ext p.g H1 (era H D) ∧ Amb p Bi H ∧ H D = some (.dK kvs) ∧ DE p (era H D) kvs dl
  refine ⟨fun i m H => m = ds.length - i ∧ St i H, ⟨ds.length, rfl, Nat.zero_le _, B1, [], l, [], [], by simpa using hgo, rfl, rfl, Nat.le_refl _, ?_, ?_, upd_same, .nil⟩, ?_⟩
  · rw [era_upd]
    exact (Ext.refl _ _).to_era hD
  · exact a1.same (Same.new hD)
  rintro i m H2 ⟨rfl, hi, Bi, xs, ys, kvs, dl, hg, hl, hdl, hll, e2e, a2, hkv, de⟩
  have e2 : Ext p.g H1 H2 := e2e.trans era_ext
  have kp : Keeps p H1 H2 fs := .of_ext e2 fs
  rcases Nat.lt_or_ge i ds.length with hlt | hge
  · -- a turn
    have hdrop : ds.drop i = ds[i] :: ds.drop (i + 1) := by rw [List.drop_eq_getElem_cons hlt]
    rw [hdrop] at hg
    obtain ⟨x1, B3, y1, f1, f2, f3⟩ := compGo_cons hg
    refine .inr ⟨wlk.go i H2 kp hlt, St (i + 1), fun H' st => ⟨ds.length - (i + 1), by omega, rfl, st⟩, fun x H' y => ?_⟩
    obtain ⟨sm, d', fp1, hd', rf, shd, sub⟩ := wlk.yld i H2 x H' kp a2.there hlt y
    have hd' : ds[i] = d' := by rw [List.getElem?_eq_getElem hlt] at hd'; exact Option.some.inj hd'
    rw [hd', ← hF] at f1
    have e2' : Ext p.g H2 H' := .of_same sm
    have hD' : H' D = some (.dK kvs) := sm _ _ hkv
    have e1' : Ext p.g H1 (era H' D) := e2e.trans (e2'.era D)
    have nf : D ∉ fp1 := fun z => wlk.th D (sub D z) hD
    have env : EnvV p Z' (δ.wipe ws) (L2.wipe σ ws) (era H' D) := ((pre.env.mono (Z' := Z') fun b hb ⟨us, hu, _⟩ => ⟨.inl hb, fun z => by rw [z, h0D] at hu; cases hu⟩).ext (e01.trans e1')).wipe ws
    have hle : xs.length + x1.length ≤ 1000000 := by
      have h6 : l.length = xs.length + (x1.length + y1.length) := by rw [hl, f3, List.length_append, List.length_append]
      omega
    dsimp only at f1
    cases q : asgTg t ⟨d', .S⟩ (δ.wipe ws) with
    | none => rw [q] at f1; cases f1
    | some δ' =>
      rw [q] at f1
      obtain ⟨b, B4, g1, g2⟩ := bind_ok f1
      refine ⟨Z', δ.wipe ws, d', fp1, δ', era H' D, era_ext, env, rf.to_era hD' nf, fun b hb => ⟨shd b hb, fun z => nf (z ▸ hb)⟩, q, fun σ' env' hw => ⟨by rw [hw ws hsl, wipe_idem], ?_⟩⟩
      have p3 : Pre p δ' Bi Z' H' σ' H' := ⟨env'.ext era_ext, .refl _ _, a2.same sm⟩
      refine ⟨δ', Bi, Z', H', p3, of_ok g1 fun H3 e3 a3 => ?_⟩
      cases b with
      | false =>
        rw [if_neg Bool.false_ne_true] at g2 ⊢
        cases g2
        exact ⟨hlt, B3, xs, y1, kvs, dl, f2, by rw [hl, f3]; rfl, hdl, hll, e1'.trans (e3.era D), a3, e3.at hD' nD1 (fun _ z => by cases z), de.keep (.of_ext ((e2'.trans e3).era D))⟩
      | true =>
        rw [if_pos rfl] at g2 ⊢
        rw [← hG] at g2
        obtain ⟨a, B5, k1, g3⟩ := bind_ok g2
        obtain ⟨r, B6, k2, g4⟩ := bind_ok g3
        have p4 := p3.at e3 a3
        refine ⟨δ', B4, Z', H', p4, of_ok k1 fun H4 e4 a4 va hva => ⟨δ', B5, Z', H', p4.at e4 a4, of_ok k2 fun H5 e5 a5 vr hvr => ?_⟩⟩
        split at g4
        · rename_i k hk
          split at g4
          · rename_i hfl
            cases g4
            obtain ⟨fpa, ra⟩ := hva.rf
            obtain ⟨fpr, rr⟩ := hvr.rf
            have er := rr.flat hfl
            subst er
            have hD5 : H5 D = some (.dK kvs) := (e3.trans (e4.trans e5)).at hD' nD1 (fun _ z => by cases z)
            have ee : Ext p.g (era H2 D) (era H5 D) := (e2'.trans (e3.trans (e4.trans e5))).era D
            have de5 : DE p (era H5 D) kvs dl := de.keep (.of_ext ee)
            have hlk : kvs.length < sizeLine := by
              have h7 := de.len
              have h8 : [RV.mk (.pr [a.d, r.d]) .D].length = 1 := rfl
              rw [sizeLine_eq]
              omega
            refine ⟨kvs, k, keyOf_ok ra hk, hD5, hlk, hlt, B3, xs ++ [⟨.pr [a.d, r.d], .D⟩], y1, putK kvs k vr, dPut dl k r.d, f2, by rw [hl, f3, List.append_assoc], ?_, ?_, ?_, a5.upd hD5 nD1 nD2, upd_same, ?_⟩
            · rw [dctOf_app, hdl]
              show (match keyOf a.d with | some k => if r.d.flat then dctOf [] (dPut dl k r.d) else none | none => none) = _
              rw [hk]
              dsimp only
              rw [if_pos hfl]
              rfl
            · have := dPut_len (dl := dl) (k := k) (d := r.d)
              rw [List.length_append]
              simp only [List.length_cons, List.length_nil]
              omega
            · rw [era_upd]
              exact e2e.trans ee
            · rw [era_upd]
              exact de5.put (rr.to_era hD5 (fun z => by cases z))
          · cases g4
        · cases g4
  · have hi' : i = ds.length := Nat.le_antisymm hi hge
    subst hi'
    refine .inl ⟨wlk.stop H2 kp, ?_⟩
    rw [List.drop_length] at hg
    cases hg
    have hl : l = xs := by rw [hl, List.append_nil]
    subst hl
    have h3 := h2 H2 e2 a2
    rw [hdl] at h3
    have rf : Rf p H2 (.ref D) (.dct dl) [D] := .dct hkv nD1 de.1 (de.keep (.of_ext era_ext)).2
    have vr : VR p Z H0 H ⟨.dct dl, .D⟩ (.ref D) H2 := ⟨[D], rf, by simp, fun a ha => by rw [List.mem_singleton.mp ha]; exact e1.free hD⟩
    obtain ⟨r, hr, h4⟩ := PostG.opt (PostG.bind h3)
    cases hr
    exact h4 H2 (.refl _ _) a2 H2 (.refl _ _) a2 (.ref D) vr
end
end Wh

set_option maxHeartbeats 4000000
/-! Wh, part N: calls of defs, isinstance, constants. -/
namespace Wh
open PySem PySem.Spec PyProof.Rows L2

section
variable {p : Pl} {Γ : GMs} {N : List Str} {C : Cs} {k : Nat} {W : WX} {sc : Scope} {fo : Str → Bool} {X : Cx}
/-- a def's answer, as the caller holds it -/
theorem callR_ok {Z : Addr → Prop} {H0 Hst H : Hp} {σ : L2.St} {f : Nat} {xs : List RV} {vs : List V} {B : Bag} {K : RV → Bag → Hp → Prop} (e0 : Ext p.g H0 Hst) (e1 : Ext p.g Hst H) (am : Amb p B H) (h : VRL p Z H0 Hst xs vs H) (hp : PostG p W σ H (callR C f xs B) K) {Q : VK}
    (hq : ∀ r B' H', Ext p.g H H' → Amb p B' H' → K r B' H' → ∀ v, VR p Z H0 Hst r v H' → Q v H') : spN p C f vs H Q (fun c d H' => W c d σ H') := by
  obtain ⟨fp, h1, h2, h3⟩ := h.kids e0
  refine ⟨xs.map (·.d), fp, B, h1, am, ?_⟩
  unfold callR at hp
  revert hp
  cases C f (xs.map (·.d)) B with
  | st => exact fun z => z
  | exc x B' => exact fun z => z
  | ok r B' =>
    intro hp v H' e a nl hv
    have hp : PostG p W σ H (if r.d.flat then .ok ⟨r.d, .D⟩ B' else match r.f with
      | .D => .ok r B'
      | .R => if xs.any (fun x => x.f.lent) then .st else .ok r B'
      | .S => if xs.any (fun x => x.f.lent) then .st else .ok r B'
      | _ => .st) K := hp
    obtain ⟨d, fl⟩ := r
    have up : ∀ b : Addr, xs.any (fun x => x.f.lent) = false → b ∈ fp ∨ H b = none → Z b ∨ H0 b = none := fun b hl q => q.elim (fun z => h2 hl b z) fun z => .inr ((e0.trans e1).free z)
    split at hp
    · rename_i hf
      obtain ⟨g, a1, _⟩ := hv
      exact hq _ B' H' e a (hp H' e a) v (.of_flat a1 hf)
    · cases fl with
      | D =>
        obtain ⟨g, a1, a2⟩ := hv
        exact hq _ B' H' e a (hp H' e a) v ⟨g, a1, a2.1, fun b hb => e1.free (a2.2 b hb)⟩
      | R =>
        simp only at hp
        split at hp
        · exact hp.elim
        · rename_i hl
          obtain ⟨g, a1, x, q, k1, k2, k3, k4⟩ := hv
          exact hq _ B' H' e a (hp H' e a) v ⟨g, a1, x, q, k1, e1.free k2, k3, fun b hb => up b (by simpa using hl) (k4 b hb)⟩
      | S =>
        simp only at hp
        split at hp
        · exact hp.elim
        · rename_i hl
          obtain ⟨g, a1, a2⟩ := hv
          exact hq _ B' H' e a (hp H' e a) v ⟨g, a1, fun b hb => up b (by simpa using hl) (a2 b hb)⟩
      | BR => cases nl
      | BD => cases nl
theorem e_call (O : XOk p Γ N C k W sc fo X) {x : Str} {q pos : Pos} {e : Expr} {es : List Expr} {f : Nat} {l : EL} (hg : Gl X x) (hm : X.mg x = some (.ref (p.F f))) (hf : p.ok f) (hh : (Γ.gd || !Γ.hv f) = true) (ha : PA X (e :: es) (rdL p C W l)) (hdb : (x == ("__debug__" : Str)) = false) (he : starEach (e :: es) X.env = (false, eval e X.env) :: starEach es X.env) (hpl : (backTo pos (starEach es X.env)).any (·.1) = false) :
    PE X (.Call (.Name x q) (e :: es) [] pos) (rdE p C W (.call f l)) := by
  refine ⟨fun pins s σ H Q I h => ?_⟩
  obtain ⟨δ, B, Z, H0, pre, post⟩ := h
  have hk : PySem.W.keepIn X.K (.ref (p.F f)) = true := by rw [← O.K]; exact (O.calls f hf).1
  refine wpAny_Call_Name_kw (ld_glob I hg hm ?_ hdb)
  have h := rdL_use (Q := fun vs H1 => spN p C f vs H1 Q (fun c d H' => W c d σ H')) pre (PostG.bind (r := evL C l δ B) post) fun rs B1 H1 e1 a1 h1 vs hvs => ?_
  · refine PySem.W.callWith_K (h₀ := X.base) I.ok.mod.kin hk (thn (ha.run pos pins s σ H _ I h) fun us s1 ⟨vs, H1, I1, r, qq⟩ => ⟨I1.kIn, ?_⟩) he hpl
    exact call_ok O hf hh I1 r qq
  · refine callR_ok pre.ext e1 a1 hvs (PostG.bind h1) fun r B' H' e a h2 v hv => ?_
    exact h2 H' (.refl _ _) a v hv
theorem e_call0 (O : XOk p Γ N C k W sc fo X) {x : Str} {q pos : Pos} {f : Nat} (hg : Gl X x) (hm : X.mg x = some (.ref (p.F f))) (hf : p.ok f) (hh : (Γ.gd || !Γ.hv f) = true) (hdb : (x == ("__debug__" : Str)) = false) :
    PE X (.Call (.Name x q) [] [] pos) (rdE p C W (.call f .nil)) := by
  refine ⟨fun pins s σ H Q I h => ?_⟩
  obtain ⟨δ, B, Z, H0, pre, post⟩ := h
  have hk : PySem.W.keepIn X.K (.ref (p.F f)) = true := by rw [← O.K]; exact (O.calls f hf).1
  refine wpAny_Call_Name_kw (ld_glob I hg hm ?_ hdb)
  have post : PostG p W σ H ((callR C f [] B).bind fun r B => asTest false r B) _ := post
  refine PySem.W.callWith_K0 I.kIn hk (call_ok (us := []) (vs := []) O hf hh I .nil ?_)
  refine callR_ok (xs := []) pre.ext (.refl _ _) pre.amb (show VRL p Z H0 H [] [] H from trivial) (PostG.bind post) fun r B' H' e a h2 v hv => ?_
  exact h2 H' (.refl _ _) a v hv

/-! ### isinstance -/
def Ty.nm : Ty → String
  | .int => "int" | .bool => "bool" | .str => "str" | .tuple => "tuple" | .list => "list" | .dict => "dict"
def D.ty : D → String
  | .non => "NoneType" | .bl _ => "bool" | .int _ => "int" | .str _ => "str" | .tup _ => "tuple" | .lst _ => "list" | _ => ""
theorem ty_of {H : Hp} {d : D} {v : V} {fp : List Addr} {t : Ty} {b : Bool} (r : Rf p H v d fp) (e : isTy d t = some b) : TyX p.K H v (.type d.ty) := by
  cases d with
  | non => cases r.non_; exact .base .non
  | bl c => cases r.bl_; exact .base (.bl _)
  | int i => cases r.int_; exact .base (.int _)
  | str s => cases r.str_; exact .base (.str _)
  | tup l =>
    cases r with
    | tup h n r => obtain ⟨o, h1, _⟩ := h; exact .fTuple h1
    | ktup h r =>
      obtain ⟨o, its, n, h1, h2, _⟩ := h
      exact .kTuple h1 h2
  | lst l =>
    cases r with
    | lst h n r => exact .base (.lst h)
  | _ => cases e
/-- of the type's own names -/
def isNm (s : String) (t : Ty) : Bool := (s == t.nm) || (s == "bool" && t.nm == "int")
theorem kit_nm (s : String) (hs : s ∈ ["NoneType", "bool", "int", "str", "tuple", "list"]) (t : Ty) : kitB s t.nm = some (isNm s t) := by
  simp only [List.mem_cons, List.not_mem_nil, or_false] at hs
  rcases hs with rfl | rfl | rfl | rfl | rfl | rfl <;> cases t <;> decide +kernel
theorem kit_isTy {K : PySem.W.Frag} {d : D} {t : Ty} {b : Bool} (e : isTy d t = some b) : PySem.W.kitOne K (.type d.ty) (.type t.nm) = some b := by
  apply kit_ty
  cases d with
  | non => rw [show (D.non).ty = "NoneType" from rfl, kit_nm _ (by simp)]; cases e; cases t <;> decide
  | bl c => rw [show (D.bl c).ty = "bool" from rfl, kit_nm _ (by simp)]; cases t <;> cases e <;> decide
  | int c => rw [show (D.int c).ty = "int" from rfl, kit_nm _ (by simp)]; cases t <;> cases e <;> decide
  | str c => rw [show (D.str c).ty = "str" from rfl, kit_nm _ (by simp)]; cases t <;> cases e <;> decide
  | tup c => rw [show (D.tup c).ty = "tuple" from rfl, kit_nm _ (by simp)]; cases t <;> cases e <;> decide
  | lst c => rw [show (D.lst c).ty = "list" from rfl, kit_nm _ (by simp)]; cases t <;> cases e <;> decide
  | _ => cases e
theorem boot_ty (t : Ty) : bootBuiltins t.nm = some (.type t.nm) := by cases t <;> decide +kernel
theorem e_isi (hK : p.K = X.K) {a : Expr} {a' : E} {t : Ty} {q q2 pos : Pos} (hg : Gl X "isinstance") (hm : X.mg "isinstance" = none) (hgt : Gl X t.nm) (hmt : X.mg t.nm = none) (ha : PE X a (rdE p C W a')) (hs : starEach [a, .Name t.nm q2] X.env = (false, eval a X.env) :: starEach [.Name t.nm q2] X.env) :
    PE X (.Call (.Name "isinstance" q) [a, .Name t.nm q2] [] pos) (rdE p C W (.isi a' t)) := by
  have hty : PE X (.Name t.nm q2) (tC (.ty t.nm)) := pe_bltn hgt hmt (boot_ty t) rfl (by cases t <;> decide) (by cases t <;> decide)
  refine (pe_callB call_isi hg hm (by decide +kernel) (pa_cons ha (pa_cons hty pa_nil rfl) hs) (by decide) (by decide) hs rfl).weak fun σ H Q h => ?_
  obtain ⟨δ, B, Z, H0, pre, post⟩ := h
  refine rdX_use pre (PostG.bind (r := ev C a' false δ B) post) fun r B1 H1 e1 a1 h1 v hv => ?_
  obtain ⟨b, e2, h2⟩ := PostG.bres h1
  obtain ⟨fp, rf⟩ := hv.rf
  refine ⟨v, .ty t.nm, .type r.d.ty, .type t.nm, b, rfl, .ty _, ?_, kit_isTy e2, h2 H1 (.refl _ _) a1 _ (.plain (.bl b))⟩
  rw [← hK]
  exact ty_of rf e2
theorem ev_isi_tt (a : E) (t : Ty) (δ : Env) (B : Bag) : ev C (.isi a t) true δ B = (ev C (.isi a t) false δ B).bind fun r B => bRes (truth r.d) B := ev_tt C _ δ B
/-! ### constants -/
theorem e_neg {a : Expr} {a' : E} {pos : Pos} (ha : PE X a (rdE p C W a')) : PE X (.UnaryOp .USub a pos) (rdE p C W (.neg a')) := by
  refine (pe_un un_neg ha).weak fun σ H Q h => ?_
  obtain ⟨δ, B, Z, H0, pre, post⟩ := h
  refine rdX_use pre (PostG.bind (r := ev C a' false δ B) post) fun r B1 H1 e1 a1 h1 v hv => ?_
  obtain ⟨d, f⟩ := r
  obtain ⟨fp, rf⟩ := hv.rf
  cases d with
  | int j =>
    cases rf.int_
    exact ⟨j, rfl, h1 H1 (.refl _ _) a1 _ (.plain (.int _))⟩
  | _ => exact h1.elim
end
end Wh

set_option maxHeartbeats 4000000
/-! Wh, part Me: methods that change nothing. -/
namespace Wh
open PySem PySem.Spec PyProof.Rows L2

section
variable {X : Cx} {p : Pl}
theorem dpAll_of {K : PySem.W.Frag} {H : Hp} {v : V} {ds : List PyData} {a : Addr} : True := trivial
/-- the place of the first item that is equal -/
theorem idx_at {l : List D} {a : D} {j : Nat} (h : l.findIdx? (fun d => eqD d a) = some j) : ∃ d, l[j]? = some d ∧ eqD d a = true ∧ ∀ m d', m < j → l[m]? = some d' → eqD d' a = false := by
  obtain ⟨h1, h2, h3⟩ := List.findIdx?_eq_some_iff_getElem.mp h
  refine ⟨l[j], List.getElem?_eq_getElem h1, h2, fun m d' hm q => ?_⟩
  have hl : m < l.length := Nat.lt_trans hm h1
  rw [List.getElem?_eq_getElem hl] at q
  cases q
  have := h3 m hm
  simpa using this
def idxId : D → String
  | .lst _ => "list.index"
  | _ => "tuple.index"
theorem call_index (hK : p.K = X.K) (hu : X.A.units + 65 < cLine) {pins : List (Addr × Obj)} {s : Shared} {σ : L2.St} {H : Hp} {x y : V} {u uy : Value} {dx dy : D} {fx fy : List Addr} {l : List D} {j : Nat} {Q : VK} (I : Inv X pins σ H s) (rx : RelV x u) (ry : RelV y uy) (r1 : Rf p H x dx fx) (r2 : Rf p H y dy fy)
    (hi : items dx = some l) (o1 : okP dx = true) (o2 : okP dy = true) (hj : l.findIdx? (fun d => eqD d dy) = some j) (q : Q (.int (j : Nat)) H) :
    wpAny (model X.prog X.w) X.A (call (.builtin (idxId dx)) [u, uy]) (EP X pins σ Q) X.xe s := by
  obtain ⟨b1, b2⟩ := okP_iff o1
  obtain ⟨c1, c2⟩ := okP_iff o2
  obtain ⟨bs, rd⟩ := reads_of I hK r2 c1 ry
  obtain ⟨d0, e1, e2, e3⟩ := idx_at hj
  have main : ∀ {a : Addr} {vs : List V} {us : List Value} {fp : List Addr}, RfL p H vs l fp → Vals vs us → D.isPL l = true → D.depL l ≤ 60 →
      ∃ hj' : j < us.toArray.size, PyData.eqv (SeqAt.readOf s.heap us.toArray[j]) dy.toP = true ∧ (∀ m (hm : m < us.toArray.size), m < j → PyData.eqv (SeqAt.readOf s.heap us.toArray[m]) dy.toP = false) ∧ ∀ z, z ∈ us.toArray → SeqAt.EqAt X.A.in1 s z uy (PyData.eqv (SeqAt.readOf s.heap z) dy.toP) := fun {a vs us fp} rl rv hp hd => by
    have hdp := rl.dp hp
    rw [hK] at hdp
    obtain ⟨as, all⟩ := Dp.readsAll I _ vs us hdp rv
    have pl := isPL_plain l hp
    have em : us.map (SeqAt.readOf s.heap) = D.toPL l := SeqAt.readsAll_map_plain _ us as pl all
    have el : us.length = l.length := by rw [← rv.length, rl.length]
    have read : ∀ (m : Nat) (hm : m < us.toArray.size) (d : D), l[m]? = some d → SeqAt.readOf s.heap us.toArray[m] = d.toP := by
      intro m hm d q'
      have hm' : m < us.length := by simpa using hm
      have e4 : (us.map (SeqAt.readOf s.heap))[m]? = (D.toPL l)[m]? := by rw [em]
      rw [toPL_map, List.getElem?_map, List.getElem?_map, q', List.getElem?_eq_getElem hm'] at e4
      simpa using Option.some.inj e4
    have hj' : j < us.toArray.size := by
      have := (List.getElem?_eq_some_iff.mp e1).1
      rw [List.size_toArray]; omega
    refine ⟨hj', by rw [read j hj' d0 e1]; exact e2, fun m hm hmj => ?_, ?_⟩
    · have hm' : m < l.length := by rw [List.size_toArray] at hm; omega
      rw [read m hm _ (List.getElem?_eq_getElem hm')]
      exact e3 m _ hmj (List.getElem?_eq_getElem hm')
    · have h1 := toPL_depth l
      have h2 := toP_depth dy
      have h3 := Nat.min_le_right (PyData.depthAll (D.toPL l)) dy.toP.depth
      exact SeqAt.items_plain (vs := us.toArray) (show ReadsAll s.heap us.toArray.toList _ as from all) rd pl (isP_plain _ c1) (by omega)
  cases dx with
  | lst l' =>
    cases hi
    obtain ⟨a, vs, g, rfl, s1, k1, rfl, rl⟩ := r1.lst_
    cases rx
    obtain ⟨us, rv, ⟨⟨cls, dd, dt, sl⟩, n, ho, hc, hdn, hdt⟩, hl⟩ := I.list (SqL.of s1)
    simp only at hc hdt
    subst hc hdt
    obtain ⟨g1, g2, g3, g4⟩ := main (a := a) rl rv (by simpa [D.isP] using b1) (by simp only [D.dep] at b2; omega)
    show wpAny _ _ (call (.builtin "list.index") _) _ _ _
    refine call_meets PySem.F.slot_list_index ⟨_, ho, rfl⟩ PySem.F.entry_list_index (PySem.F.args_list_index_2 _ _)
      (SeqAt.list_indexAt a us.toArray n dd sl uy (fun z => PyData.eqv (SeqAt.readOf s.heap z) dy.toP) j g1 (by have := rv.length; have := sizeLine_eq; rw [List.size_toArray] at g1; omega) g2 g3) ⟨ho, g4, ⟨.int (j : Nat), H, I.tok _, ⟨_, rfl⟩, q⟩⟩
  | tup l' =>
    cases hi
    obtain ⟨a, vs, rfl, s1, rl⟩ := r1.tup_
    rw [hK] at s1
    cases rx
    obtain ⟨us, rv, ⟨⟨cls, dd, dt, sl⟩, ho, hc, n, hd⟩, hl⟩ := I.tuple s1
    simp only at hc hd
    subst hc hd
    obtain ⟨g1, g2, g3, g4⟩ := main (a := a) rl rv (by simpa [D.isP] using b1) (by simp only [D.dep] at b2; omega)
    show wpAny _ _ (call (.builtin "tuple.index") _) _ _ _
    exact call_meets PySem.F.slot_tuple_index ⟨_, ho, rfl⟩ PySem.F.entry_tuple_index (PySem.F.args_tuple_index_2 _ _)
      (TI.tuple_indexAt a us.toArray n dd sl uy (fun z => PyData.eqv (SeqAt.readOf s.heap z) dy.toP) j g1 g2 g3) ⟨ho, g4, ⟨.int (j : Nat), H, I.tok _, ⟨_, rfl⟩, q⟩⟩
  | _ => cases hi
def tIx (p : Pl) (to : TE) (t : TA) : TE := fun σ H Q => to σ H fun x H1 => ∃ d fp, Rf p H1 x d fp ∧ (items d).isSome = true ∧ t σ H1 fun ys H2 => ∃ y dy fx fy l j, ys = [y] ∧ Rf p H2 x d fx ∧ Rf p H2 y dy fy ∧ items d = some l ∧ okP d = true ∧ okP dy = true ∧ l.findIdx? (fun z => eqD z dy) = some j ∧ Q (.int (j : Nat)) H2
theorem pe_idx (hK : p.K = X.K) (hu : X.A.units + 65 < cLine) {o e : Expr} {to : TE} {t : TA} {apos cpos : Pos} (ho : PE X o to) (ha : PA X [e] t) (hbase : attributeBase o "index" X.env (eval o X.env) = eval o X.env)
    (hfew : ((backTo cpos (starEach [e] X.env)).all (fun x => !x.1) && (backToKw cpos (keywordEach [] X.env)).all (fun x => x.1.isSome) && decide (([e] : List Expr).length + ([] : List Keyword).length + (if ([] : List Keyword).isEmpty then 0 else 1) < 30)) = true)
    (hline : (apos.endLine == cpos.line) = true) (hs : starEach [e] X.env = [(false, eval e X.env)]) : PE X (.Call (.Attribute o "index" apos) [e] [] cpos) (tIx p to t) := by
  refine ⟨fun pins s σ H Q I h => wpAny_Call_method_late hbase hfew hline rfl (thn (ho.run pins s σ H _ I h) fun v s1 ⟨x, H1, I1, r1, d, fp, rf, hi, k⟩ => ?_)⟩
  have hA := ha.run cpos pins s1 σ H1 _ I1 k
  have fin : wpAny (model X.prog X.w) X.A (callWith cpos (.builtin (idxId d)) [v] (backTo cpos (starEach [e] X.env)) []) (EP X pins σ Q) X.xe s1 := by
    rw [hs] at hA ⊢
    refine Calls.callWith_builtin rfl (Calls.evalArgs_plain (thn hA fun us s2 ⟨vs, H2, I2, r2, y, dy, fx, fy, l, j, ey, k1, k2, k3, k4, k5, k6, q⟩ => ?_))
    subst ey
    obtain ⟨uy, rfl, ry⟩ := vals1 r2
    exact call_index hK hu I2 r1 ry k1 k2 k3 k4 k5 k6 q
  cases d with
  | lst l' =>
    obtain ⟨a, vs, g, rfl, s1', _, _, _⟩ := rf.lst_
    obtain ⟨h1, h2⟩ := tyV_is (T := "list") I1 r1 (.inl ⟨rfl, vs, SqL.of s1'⟩)
    exact ⟨"list", "list.index", PySem.F.plainAttrs_list, PySem.F.slot_list_index, PySem.F.type_list_index, h1, h2, fin⟩
  | tup l' =>
    have both : s1.TypeIs v "tuple" ∧ ∀ a, v = .ref a → ∃ ob, s1.heap.get? a = some ob ∧ ob.dict = none := by
      cases rf with
      | tup hT n rl =>
        obtain ⟨ob, h1, h2⟩ := hT
        cases r1
        obtain ⟨g1, _, _, _, o', g2, g3, _⟩ := (show ObjOk X.prog X.w H1 s1.heap _ (.frz ob (.tup _)) from I1.hok _ _ h1)
        rw [g1] at g2
        cases g2
        exact ⟨⟨ob, g1, g3⟩, fun a ea => by cases ea; exact ⟨ob, g1, h2⟩⟩
      | ktup hT rl =>
        obtain ⟨ob, its, n, h1, h2, _, _, _, h3⟩ := hT
        rw [hK] at h1
        exact tyV_is (T := "tuple") I1 r1 (.inr (.inl ⟨rfl, ob, h1, h2, h3⟩))
    exact ⟨"tuple", "tuple.index", PySem.F.plainAttrs_tuple, PySem.F.slot_tuple_index, PySem.F.type_tuple_index, both.1, both.2, fin⟩
  | _ => cases hi
end
section
variable {X : Cx} {p : Pl} {C : Cs} {W : WX}
theorem e_me {m : Me} {o e : Expr} {a' e' : E} {cal : Expr} (hm : m = .index) (ho : PE X o (rdE p C W a')) (ha : PA X [e] (rdL p C W (.cons e' .nil))) (pe : ∀ to t, PE X o to → PA X [e] t → PE X cal (tIx p to t)) : PE X cal (rdE p C W (.me m a' (.cons e' .nil))) := by
  subst hm
  refine (pe _ _ ho ha).weak fun σ H Q h => ?_
  obtain ⟨δ, B, Z, H0, pre, post⟩ := h
  have post : PostG p W σ H ((ev C a' false δ B).bind fun x B => if meOk .index x then (evL C (.cons e' .nil) δ B).bind fun xs B => (opt (meF .index x xs) B).bind fun r B => asTest false r B else .st) _ := post
  refine rdX_use pre (PostG.bind post) fun rx B1 H1 e1 a1 h1 v hv => ?_
  obtain ⟨fx, rf⟩ := hv.rf
  split at h1
  · rename_i hok
    refine ⟨rx.d, fx, rf, ?_, rdL_len (pre.at e1 a1) (PostG.bind h1) fun rs B2 H2 e2 a2 hl h2 vs hl2 hvs => ?_⟩
    · obtain ⟨d, f⟩ := rx
      cases d <;> first | rfl | cases hok
    obtain ⟨ra, rfl⟩ := one_of hl
    obtain ⟨y, rfl⟩ := one_of hl2
    obtain ⟨rz, hz, h3⟩ := PostG.opt (PostG.bind h2)
    obtain ⟨hy, _⟩ := hvs.each (pre.ext.trans e1)
    obtain ⟨fy, rfy⟩ := hy.rf
    have hz : (match items rx.d with
      | some l => if (okP rx.d && okP ra.d) = true then match l.findIdx? (fun d => eqD d ra.d) with
        | some j => plain (.int (j : Int))
        | none => none
        else none
      | none => none) = some rz := hz
    split at hz
    · rename_i l ql
      split at hz
      · rename_i hp
        simp only [Bool.and_eq_true] at hp
        split at hz
        · rename_i j qj
          cases plain_some hz
          exact ⟨y, ra.d, fx, fy, l, j, rfl, rf.ext e2, rfy, ql, hp.1, hp.2, qj, h3 H2 (.refl _ _) a2 H2 (.refl _ _) a2 _ (.plain (.int _))⟩
        · cases hz
      · cases hz
    · cases hz
  · exact h1.elim
end
end Wh

set_option maxHeartbeats 4000000
/-! Wh, part Se: sorted(set(rows of numbers)). -/
namespace Wh
open PySem PySem.Spec PyProof.Rows L2

theorem mem_once : ∀ {l : List (List Int)} {x : List Int}, x ∈ once l ↔ x ∈ l
  | [], x => by simp [once]
  | y :: r, x => by
    unfold once
    split
    · rename_i h
      have h : y ∈ r := by simpa using h
      rw [mem_once, List.mem_cons]
      exact ⟨.inr, fun z => z.elim (fun e => e ▸ h) id⟩
    · rw [List.mem_cons, List.mem_cons, mem_once]
theorem nodup_once : ∀ (l : List (List Int)), (once l).Nodup
  | [] => List.nodup_nil
  | y :: r => by
    unfold once
    split
    · exact nodup_once r
    · rename_i h
      have h : y ∉ r := by simpa using h
      exact List.nodup_cons.mpr ⟨fun z => h (mem_once.mp z), nodup_once r⟩
theorem code_inj {B : Int} : ∀ {a b : List Int}, a.length = b.length → TS.Bd B a → TS.Bd B b → TS.code B a = TS.code B b → a = b
  | [], [], _, _, _, _ => rfl
  | [], _ :: _, h, _, _, _ => by cases h
  | _ :: _, [], h, _, _, _ => by cases h
  | d :: r, e :: q, hl, ha, hb, h => by
    have hl' : r.length = q.length := by simpa using hl
    rcases Int.lt_trichotomy d e with z | z | z
    · have := TS.code_lt hl' ha.tail hb.tail z
      omega
    · subst z
      have h1 : ¬ TS.code B r < TS.code B q := fun w => by
        have := (TS.code_same (d := d) hl').mpr w
        omega
      have h2 : ¬ TS.code B q < TS.code B r := fun w => by
        have := (TS.code_same (d := d) hl'.symm).mpr w
        omega
      rw [code_inj hl' ha.tail hb.tail (by omega)]
    · have := TS.code_lt hl'.symm hb.tail ha.tail z
      omega
/-- the set's rows, in order, are these -/
theorem sset_eq {B : Int} {d : Nat} {rows A : List (List Int)} (hb : ∀ r ∈ rows, r.length = d ∧ TS.Bd B r) (hn : A.Nodup) (hm : ∀ r, r ∈ A ↔ r ∈ rows) (hs : A.Pairwise fun a b => TS.code B a ≤ TS.code B b) : A = (once rows).mergeSort fun a b => decide (TS.code B a ≤ TS.code B b) := by
  have p1 : A.Perm (once rows) := (List.perm_ext_iff_of_nodup hn (nodup_once rows)).mpr fun r => by rw [hm, mem_once]
  have p2 := (List.mergeSort_perm (once rows) fun a b => decide (TS.code B a ≤ TS.code B b))
  have q2 := List.pairwise_mergeSort (le := fun a b => decide (TS.code B a ≤ TS.code B b)) (fun a b c x y => by simp only [decide_eq_true_eq] at *; omega) (fun a b => by
    simp only [Bool.or_eq_true, decide_eq_true_eq]; omega) (once rows)
  refine List.Perm.eq_of_pairwise (le := fun a b => TS.code B a ≤ TS.code B b) (fun a b ha hb' x y => ?_) hs (q2.imp fun h => by simpa using h) (p1.trans p2.symm)
  have m1 := (hm a).mp ha
  have m2 : b ∈ rows := mem_once.mp (p2.mem_iff.mp hb')
  exact code_inj ((hb a m1).1.trans (hb b m2).1.symm) (hb a m1).2 (hb b m2).2 (Int.le_antisymm x y)
section
variable {p : Pl} {H : Hp}
/-- the rows' own tuples -/
theorem rows_ks : ∀ {vs : List V} {l : List D} {fp : List Addr} {rows : List (List Int)}, RfL p H vs l fp → rowsOf l = some rows → fp = [] ∧ ∃ ks : List (Addr × List Int), vs = ks.map (fun q => V.ref q.1) ∧ ks.map (·.2) = rows ∧ ∀ q ∈ ks, Rf p H (.ref q.1) (.tup (q.2.map D.int)) [] ∧ SqT p.K H q.1 (q.2.map V.int)
  | _, _, _, _, .nil, h => by cases h; exact ⟨rfl, [], rfl, rfl, fun q hq => by cases hq⟩
  | _, _, _, rows, .cons (v := v) (d := d) r t, h => by
    cases d with
    | tup l =>
      simp only [rowsOf] at h
      split at h
      · rename_i a b qa qb
        cases h
        obtain ⟨e2, ks, h1, h2, h3⟩ := rows_ks t qb
        have el := intsOf_eq qa
        subst el
        have fl : ∀ ns : List Int, D.flatL (ns.map D.int) = true := fun ns => by
          induction ns with
          | nil => rfl
          | cons n ns ih => simp [D.flatL, D.flat, ih]
        have e1 := r.flat (by simp [D.flat, fl])
        subst e1 e2
        obtain ⟨x, ws, rfl, sq, rl⟩ := r.tup_
        rw [rl.ints] at sq
        refine ⟨rfl, (x, a) :: ks, by rw [h1]; rfl, by rw [List.map_cons, h2], fun q hq => ?_⟩
        rcases List.mem_cons.mp hq with z | z
        · rw [z]; exact ⟨r, sq⟩
        · exact h3 q z
      · cases h
    | _ => cases h
theorem ks_rfl {H' : Hp} : ∀ {L : List (Addr × List Int)}, (∀ q ∈ L, Rf p H' (.ref q.1) (.tup (q.2.map D.int)) []) → RfL p H' (L.map fun q => V.ref q.1) ((L.map (·.2)).map fun r => D.tup (r.map D.int)) []
  | [], _ => .nil
  | q :: L, h => .cons (f1 := []) (f2 := []) (h q List.mem_cons_self) (ks_rfl fun z hz => h z (List.mem_cons_of_mem _ hz))
end
section
variable {p : Pl} {Γ : GMs} {N : List Str} {C : Cs} {k : Nat} {W : WX} {sc : Scope} {fo : Str → Bool} {X : Cx}
theorem e_sset (O : XOk p Γ N C k W sc fo X) {a : Expr} {l0 : EL} {q q2 pos pos2 : Pos} (hg : Gl X (Str.ofString "sorted")) (hg2 : Gl X (Str.ofString "set")) (ha : PA X [a] (rdL p C W l0)) (hs : starEach [a] X.env = [(false, eval a X.env)]) : PE X (.Call (.Name (Str.ofString "sorted") q) [.Call (.Name (Str.ofString "set") q2) [a] [] pos2] [] pos) (rdE p C W (.bi .sset l0)) := by
  have hu := O.hu
  have pset := pe_callTy (cr_setOfT O.calm (by omega)) hg2 (O.gl.blt "set" (by decide)) (by decide +kernel) ha (by decide) (by decide) (by rw [hs]; rfl) rfl (p := q2) (pos := pos2)
  refine (pe_callB (cr_sortedT O.calm) hg (O.gl.blt "sorted" (by decide)) (by decide +kernel) (pa_cons pset pa_nil) (by decide) (by decide) rfl rfl).weak fun σ H Q h => ?_
  obtain ⟨δ, B, Z, H0, pre, post⟩ := h
  refine rdL_len pre (PostG.bind (r := evL C l0 δ B) post) fun rs B1 H1 e1 a1 _ h1 vs0 _ hvs => ?_
  obtain ⟨rz, hz, h3⟩ := PostG.opt (PostG.bind h1)
  obtain ⟨rx, rfl⟩ : ∃ x, rs = [x] := by
    match rs, hz with
    | [x], _ => exact ⟨x, rfl⟩
    | [], hz => cases hz
    | _ :: _ :: _, hz => cases hz
  obtain ⟨v, rfl⟩ := one_of (show vs0.length = 1 from hvs.length)
  obtain ⟨hv, _⟩ := hvs.each pre.ext
  obtain ⟨rd, rf0⟩ := rx
  obtain ⟨fp, rf⟩ := hv.rf
  cases rd with
  | lst l =>
    obtain ⟨aa, vs, g, rfl, s1, k1, rfl, rl⟩ := rf.lst_
    have hz : (match ssetF l with | some r => plain (.lst r) | none => none) = some rz := hz
    split at hz
    · rename_i res qr
      cases plain_some hz
      unfold ssetF at qr
      split at qr
      · rename_i rows qrow
        split at qr
        · rename_i hc
          cases qr
          obtain ⟨c1, c2⟩ := hc
          obtain ⟨eg, ks, v1, v2, v3⟩ := rows_ks rl qrow
          have hK := O.K
          have bnd : ∀ r ∈ rows, r.length = max 1 ((rows.head?).getD [0]).length ∧ TS.Bd 1000 r := fun r hr => by
            have := List.all_eq_true.mp c2 r hr
            simp only [Bool.and_eq_true, decide_eq_true_eq, List.all_eq_true] at this
            exact ⟨this.1, fun m hm => this.2 m hm⟩
          refine ⟨aa, ks, rfl, SqL.of (v1 ▸ s1), fun z hz => hK ▸ (v3 z hz).2, by rw [← List.length_map (f := (·.2)), v2]; exact c1, fun sa L hsa hsub hall => ?_⟩
          have sm := Same.new (o := SetTO X.prog X.w sa L) hsa
          have inR : ∀ z ∈ L, z.2 ∈ rows := fun z hz => by rw [← v2]; exact List.mem_map.mpr ⟨z, hsub z hz, rfl⟩
          refine ⟨sa, L, max 1 ((rows.head?).getD [0]).length, 1000, rfl, upd_same, fun z hz => ?_, Nat.le_max_left _ _, fun z hz => bnd _ (inR z hz), fun L' pa perm nd _ srt hpa => ?_⟩
          · have := ((v3 z (hsub z hz)).1.ext (.of_same sm)).tup_
            obtain ⟨x, ws, ex, sq, rl2⟩ := this
            cases ex
            rw [rl2.ints] at sq
            exact hK ▸ sq
          · have memL : ∀ z, z ∈ L' ↔ z ∈ L := fun z => perm.mem_iff
            have eqr := sset_eq (B := 1000) (rows := rows) (A := L'.map (·.2)) bnd nd (fun r => by
              constructor
              · intro h
                obtain ⟨z, hz, rfl⟩ := List.mem_map.mp h
                exact inR z ((memL z).mp hz)
              · intro h
                rw [← v2] at h
                obtain ⟨z, hz, rfl⟩ := List.mem_map.mp h
                obtain ⟨w, hw, ew⟩ := List.mem_map.mp (hall z hz)
                exact List.mem_map.mpr ⟨w, (memL w).mpr hw, ew⟩) (List.pairwise_map.mpr srt)
            have sm2 := Same.new (o := .lst (L'.map fun q => V.ref q.1)) hpa
            have sm3 : Same H1 (upd (upd H1 sa (SetTO X.prog X.w sa L)) pa (.lst (L'.map fun q => V.ref q.1))) := fun a u e => sm2 a u (sm a u e)
            have rr := ks_rfl (p := p) (H' := upd (upd H1 sa (SetTO X.prog X.w sa L)) pa (.lst (L'.map fun q => V.ref q.1))) (L := L') fun z hz => (v3 z (hsub z ((memL z).mp hz))).1.ext (.of_same sm3)
            rw [eqr] at rr
            refine h3 _ (.of_same sm3) (a1.same sm3) _ (.refl _ _) (a1.same sm3) _ ⟨[pa], .lst upd_same (nog hpa ?_) rr, by simp, fun z hz => ?_⟩
            · obtain ⟨o, ho⟩ := a1.there
              exact ⟨o, sm _ _ ho⟩
            · rw [List.mem_singleton.mp hz]
              exact (e1.trans (.of_same sm)).free hpa
        · cases qr
      · cases qr
    · cases hz
  | _ => cases hz
end
end Wh

set_option maxHeartbeats 4000000
/-! Wh, part P: a frame's names through its statements. -/
namespace Wh
open PySem PySem.Spec PyProof.Rows L2

/-- the tuples stay, and the lists that S tells -/
def Kp (p : Pl) (H H' : Hp) (S : Addr → Prop) : Prop := KpO p.g H H' ∧ ∀ a, S a → ∀ o, H a = some o → Chg o → a ≠ p.g → H' a = some o
section
variable {p : Pl} {H H' H'' : Hp} {S S' : Addr → Prop}
theorem Kp.of_ext (e : Ext p.g H H') (S : Addr → Prop) : Kp p H H' S := ⟨.of_ext e, fun a _ o h m n => e.at h n m.ntbl⟩
theorem Kp.trans (a : Kp p H H' S) (b : Kp p H' H'' S') (s : ∀ x, S x → S' x) : Kp p H H'' S := ⟨a.1.trans b.1, fun x hx o h m n => b.2 x (s x hx) o (a.2 x hx o h m n) m n⟩
theorem Kp.sub (a : Kp p H H' S) (s : ∀ x, S' x → S x) : Kp p H H' S' := ⟨a.1, fun x hx => a.2 x (s x hx)⟩
theorem Kp.keeps (a : Kp p H H' S) {fp : List Addr} (s : ∀ x ∈ fp, S x) : Keeps p H H' fp := ⟨a.1, fun x hx => a.2 x (s x hx)⟩
theorem Kp.refl : Kp p H H S := ⟨.refl _ _, fun _ _ _ h _ _ => h⟩
end

/-- P: the lists of the parameters; He: the heap at entry; L: lists that are being walked, with the slot that may own each; Z: what is shared; ow: what each name owns -/
structure FI (p : Pl) (P : Addr → Prop) (He : Hp) (L : List (Nat × Addr)) (Z : Addr → Prop) (ow : Nat → List Addr) (δ : Env) (σ : L2.St) (H : Hp) : Prop where
  ext : Ext p.g He H
  gc : He p.gc ≠ none
  len : δ.length = σ.length
  nd : ∀ i, (ow i).Nodup
  own : ∀ i, ∀ b ∈ ow i, ¬ Z b ∧ He b = none ∧ H b ≠ none
  one : ∀ i j b, b ∈ ow i → b ∈ ow j → i = j
  lk : ∀ e ∈ L, ∀ j, e.2 ∈ ow j → j = e.1
  at_ : ∀ i m d, δ.get i = some (m, d) → ∃ v fp, σ[i]? = some (some v) ∧ Rf p H v d fp ∧ match m with
    | .S => ∀ b ∈ fp, Z b
    | .R => ∃ a q, fp = a :: q ∧ ow i = [a] ∧ ∀ b ∈ q, Z b
    | .D => ow i = fp
  zp : ∀ b, Z b → (P b ∨ He b = none) ∧ H b ≠ none
  lth : ∀ e ∈ L, H e.2 ≠ none
theorem Ext.some {g : Addr} {H H' : Hp} (e : Ext g H H') {b : Addr} (h : H b ≠ none) : H' b ≠ none := fun z => h (e.free z)
/-- one name owns something else -/
def owp (ow : Nat → List Addr) (i : Nat) (l : List Addr) : Nat → List Addr := fun j => if j = i then l else ow j
theorem owp_at {ow : Nat → List Addr} {i : Nat} {l : List Addr} : owp ow i l i = l := if_pos rfl
theorem owp_ne {ow : Nat → List Addr} {i j : Nat} {l : List Addr} (h : j ≠ i) : owp ow i l j = ow j := if_neg h
section
variable {p : Pl} {P : Addr → Prop} {He : Hp} {L : List (Nat × Addr)} {Z : Addr → Prop} {ow : Nat → List Addr} {δ : Env} {σ : L2.St} {H H' : Hp}
theorem FI.env (h : FI p P He L Z ow δ σ H) : EnvV p Z δ σ H := ⟨h.len, fun i m d q => by
  obtain ⟨v, fp, h1, h2, h3⟩ := h.at_ i m d q
  refine ⟨v, fp, h1, h2, ?_⟩
  cases m with
  | S => exact h3
  | R =>
    obtain ⟨a, r, e, _, h4⟩ := h3
    exact ⟨a, r, e, h4⟩
  | D => trivial⟩
theorem FI.up (h : FI p P He L Z ow δ σ H) (e : Ext p.g H H') : FI p P He L Z ow δ σ H' :=
  ⟨h.ext.trans e, h.gc, h.len, h.nd, fun i b hb => let ⟨a, c, d⟩ := h.own i b hb; ⟨a, c, e.some d⟩, h.one, h.lk, fun i m d q => let ⟨v, fp, h1, h2, h3⟩ := h.at_ i m d q; ⟨v, fp, h1, h2.ext e, h3⟩,
    fun b hb => let ⟨a, c⟩ := h.zp b hb; ⟨a, e.some c⟩, fun x hx => e.some (h.lth x hx)⟩
/-- fewer walks -/
theorem FI.less (h : FI p P He L Z ow δ σ H) {L' : List (Nat × Addr)} (s : ∀ e ∈ L', e ∈ L) : FI p P He L' Z ow δ σ H := ⟨h.ext, h.gc, h.len, h.nd, h.own, h.one, fun e he => h.lk e (s e he), h.at_, h.zp, fun e he => h.lth e (s e he)⟩
/-- more is shared -/
theorem FI.share (h : FI p P He L Z ow δ σ H) (S : Addr → Prop) (hs : ∀ b, S b → (P b ∨ He b = none) ∧ H b ≠ none ∧ ∀ i, b ∉ ow i) : FI p P He L (fun b => Z b ∨ S b) ow δ σ H :=
  ⟨h.ext, h.gc, h.len, h.nd, fun i b hb => let ⟨a, c, d⟩ := h.own i b hb; ⟨fun z => z.elim a fun z => (hs b z).2.2 i hb, c, d⟩, h.one, h.lk, fun i m d q => by
    obtain ⟨v, fp, h1, h2, h3⟩ := h.at_ i m d q
    refine ⟨v, fp, h1, h2, ?_⟩
    cases m with
    | S => exact fun b hb => .inl (h3 b hb)
    | R =>
      obtain ⟨a, r, e, e2, h4⟩ := h3
      exact ⟨a, r, e, e2, fun b hb => .inl (h4 b hb)⟩
    | D => exact h3, fun b hb => hb.elim (fun z => h.zp b z) fun z => ⟨(hs b z).1, (hs b z).2.1⟩, h.lth⟩
/-- a store: the value's lists q are shared, its own are o -/
theorem FI.put (h : FI p P He L Z ow δ σ H) {i : Nat} {m : Md} {d : D} {v : V} {fp o : List Addr} (r : Rf p H v d fp) (hz : ∀ b ∈ o, ¬ Z b ∧ He b = none ∧ (∀ j, j ≠ i → b ∉ ow j) ∧ (∀ e ∈ L, e.2 ≠ b)) (ho : ∀ b ∈ o, H b ≠ none) (hn : o.Nodup) (hm : match m with
    | .S => o = [] ∧ ∀ b ∈ fp, Z b
    | .R => ∃ a q, fp = a :: q ∧ o = [a] ∧ ∀ b ∈ q, Z b
    | .D => o = fp) : FI p P He L Z (owp ow i o) (δ.put i m d) (σ.set i (some v)) H where
  ext := h.ext
  gc := h.gc
  len := by unfold Env.put; rw [List.length_set, List.length_set, h.len]
  nd := fun j => by
    by_cases e : j = i
    · subst e; rw [owp_at]; exact hn
    · rw [owp_ne e]; exact h.nd j
  own := fun j b hb => by
    by_cases e : j = i
    · subst e
      rw [owp_at] at hb
      exact ⟨(hz b hb).1, (hz b hb).2.1, ho b hb⟩
    · rw [owp_ne e] at hb; exact h.own j b hb
  one := fun j k b hb hc => by
    by_cases e : j = i
    · by_cases f : k = i
      · rw [e, f]
      · rw [owp_ne f] at hc
        rw [e, owp_at] at hb
        exact absurd hc ((hz b hb).2.2.1 k f)
    · by_cases f : k = i
      · rw [owp_ne e] at hb
        rw [f, owp_at] at hc
        exact absurd hb ((hz b hc).2.2.1 j e)
      · rw [owp_ne e] at hb
        rw [owp_ne f] at hc
        exact h.one j k b hb hc
  lk := fun e he j hb => by
    by_cases f : j = i
    · rw [f, owp_at] at hb
      exact absurd rfl ((hz _ hb).2.2.2 e he)
    · rw [owp_ne f] at hb; exact h.lk e he j hb
  at_ := fun j m' d' q => by
    rcases get_put q with ⟨rfl, hl, e⟩ | ⟨hne, q⟩
    · cases e
      refine ⟨v, fp, List.getElem?_set_self (by rw [← h.len]; exact hl), r, ?_⟩
      rw [owp_at]
      cases m with
      | S => exact hm.2
      | R => exact hm
      | D => exact hm
    · obtain ⟨w, f2, h1, h2, h3⟩ := h.at_ j m' d' q
      rw [owp_ne hne]
      exact ⟨w, f2, by rw [List.getElem?_set_ne (Ne.symm hne)]; exact h1, h2, h3⟩
  zp := h.zp
  lth := h.lth

/-! ### what is handed on is shared -/
theorem FI.freeze1 (h : FI p P He L Z ow δ σ H) (x : Nat × Nat) : ∃ Z' ow', FI p P He L Z' ow' (Wh.freeze1 δ x) σ H ∧ ∀ b, Z b → Z' b := by
  -- a name's own lists become shared
  have toS : ∀ i m d, δ.get i = some (m, d) → ∃ Z' ow', FI p P He L Z' ow' (δ.put i .S d) σ H ∧ ∀ b, Z b → Z' b := fun i m d q => by
    obtain ⟨v, fp, h1, h2, h3⟩ := h.at_ i m d q
    have hfp : ∀ b ∈ fp, Z b ∨ b ∈ ow i := by
      cases m with
      | S => exact fun b hb => .inl (h3 b hb)
      | R =>
        obtain ⟨a, r, e, e2, h4⟩ := h3
        intro b hb
        rw [e] at hb
        rcases List.mem_cons.mp hb with z | z
        · exact .inr (by rw [e2, z]; exact List.mem_cons_self)
        · exact .inl (h4 b z)
      | D => exact fun b hb => .inr (by rw [h3]; exact hb)
    have w : FI p P He L Z (owp ow i []) (δ.put i .S d) (σ.set i (some v)) H → FI p P He L (fun b => Z b ∨ b ∈ ow i) (owp ow i []) (δ.put i .S d) (σ.set i (some v)) H := fun w =>
      w.share (fun b => b ∈ ow i) fun b hb => ⟨.inr (h.own i b hb).2.1, (h.own i b hb).2.2, fun j hj => by
        by_cases e : j = i
        · subst e; rw [owp_at] at hj; cases hj
        · rw [owp_ne e] at hj; exact e (h.one j i b hj hb)⟩
    have hσ : σ.set i (some v) = σ := by
      apply List.ext_getElem?
      intro j
      by_cases e : i = j
      · subst e
        have hl : i < σ.length := (List.getElem?_eq_some_iff.mp h1).1
        rw [List.getElem?_set_self hl, h1]
      · rw [List.getElem?_set_ne e]
    -- the slot itself, shared from now on
    refine ⟨fun b => Z b ∨ b ∈ ow i, owp ow i [], ?_, fun b hb => .inl hb⟩
    have h' : FI p P He L (fun b => Z b ∨ b ∈ ow i) (owp ow i []) (δ.wipe [i]) σ H := by
      refine FI.share (Z := Z) ⟨h.ext, h.gc, by rw [wipe_len]; exact h.len, fun j => ?_, fun j b hb => ?_, fun j k b hb hc => ?_, fun e he j hb => ?_, fun j m' d' q' => ?_, h.zp, h.lth⟩ _ fun b hb => ⟨.inr (h.own i b hb).2.1, (h.own i b hb).2.2, fun j hj => ?_⟩
      · by_cases e : j = i
        · subst e; rw [owp_at]; exact List.nodup_nil
        · rw [owp_ne e]; exact h.nd j
      · by_cases e : j = i
        · subst e; rw [owp_at] at hb; cases hb
        · rw [owp_ne e] at hb; exact h.own j b hb
      · by_cases e : j = i
        · rw [e, owp_at] at hb; cases hb
        · by_cases f : k = i
          · rw [f, owp_at] at hc; cases hc
          · rw [owp_ne e] at hb; rw [owp_ne f] at hc; exact h.one j k b hb hc
      · by_cases f : j = i
        · rw [f, owp_at] at hb; cases hb
        · rw [owp_ne f] at hb; exact h.lk e he j hb
      · obtain ⟨q1, q2⟩ := get_wipe q'
        have ne : j ≠ i := fun z => q2 (by rw [z]; exact List.mem_cons_self)
        obtain ⟨w, f2, h5, h6, h7⟩ := h.at_ j m' d' q1
        rw [owp_ne ne]
        exact ⟨w, f2, h5, h6, h7⟩
      · by_cases e : j = i
        · subst e; rw [owp_at] at hj; cases hj
        · rw [owp_ne e] at hj; exact e (h.one j i b hj hb)
    have := h'.put (i := i) (m := .S) (d := d) (v := v) (fp := fp) (o := []) h2 (fun b hb => by cases hb) (fun b hb => by cases hb) List.nodup_nil ⟨rfl, fun b hb => hfp b hb⟩
    have e1 : owp (owp ow i []) i [] = owp ow i [] := by funext j; by_cases e : j = i <;> simp [owp, e]
    have e2 : (δ.wipe [i]).put i .S d = δ.put i .S d := by
      show ((δ.set i none).set i _) = δ.set i _
      rw [List.set_set]
    rw [e1, e2, hσ] at this
    exact this
  unfold Wh.freeze1
  cases q : δ.get x.1 with
  | none => exact ⟨Z, ow, h, fun _ z => z⟩
  | some md =>
    obtain ⟨m, d⟩ := md
    dsimp only
    split
    · exact toS _ _ _ q
    · split
      · cases m with
        | D =>
          dsimp only
          split
          · exact ⟨Z, ow, h, fun _ z => z⟩
          · exact toS _ _ _ q
        | S => exact ⟨Z, ow, h, fun _ z => z⟩
        | R => exact ⟨Z, ow, h, fun _ z => z⟩
      · exact ⟨Z, ow, h, fun _ z => z⟩
theorem FI.freeze : ∀ {l : List (Nat × Nat)} {δ : Env} {Z : Addr → Prop} {ow : Nat → List Addr}, FI p P He L Z ow δ σ H → ∃ Z' ow', FI p P He L Z' ow' (Wh.freeze δ l) σ H ∧ ∀ b, Z b → Z' b
  | [], δ, Z, ow, h => ⟨Z, ow, h, fun _ z => z⟩
  | x :: l, δ, Z, ow, h => by
    obtain ⟨Z1, ow1, h1, s1⟩ := h.freeze1 x
    obtain ⟨Z2, ow2, h2, s2⟩ := FI.freeze (l := l) h1
    exact ⟨Z2, ow2, h2, fun b z => s2 b (s1 b z)⟩

/-! ### stores -/
/-- a value with the lists fp, all of them new (H0) or shared -/
theorem FI.store (h : FI p P He L Z ow δ σ H) {H1 : Hp} (e1 : Ext p.g H H1) {i : Nat} {m : Md} {r : RV} {v : V} (hv : VR p Z H H r v H1) (hm : mdOf r = some m) : ∃ Z' ow', FI p P He L Z' ow' (δ.put i m r.d) (σ.set i (some v)) H1 ∧ ∀ b, Z b → Z' b := by
  obtain ⟨fp, h1, h2⟩ := hv
  have h' := h.up e1
  unfold mdOf at hm
  have fresh : ∀ b, H b = none → ¬ Z b ∧ He b = none ∧ (∀ j, b ∉ ow j) ∧ ∀ e ∈ L, e.2 ≠ b := fun b q =>
    ⟨fun z => (h.zp b z).2 q, h.ext.free q, fun j hj => (h.own j b hj).2.2 q, fun e he z => h.lth e he (z ▸ q)⟩
  have there : ∀ b ∈ fp, H1 b ≠ none := fun b hb z => by
    obtain ⟨us, q, _⟩ := h1.there b hb
    rw [q] at z; cases z
  have shr : ∀ q : List Addr, (∀ b ∈ q, b ∈ fp) → (∀ b ∈ q, Z b ∨ H b = none) → FI p P He L (fun b => Z b ∨ b ∈ q) ow δ σ H1 := fun q hs hq => h'.share _ fun b hb => by
    rcases hq b hb with z | z
    · exact ⟨(h.zp b z).1, there b (hs b hb), fun j hj => (h.own j b hj).1 z⟩
    · exact ⟨.inr (fresh b z).2.1, there b (hs b hb), (fresh b z).2.2.1⟩
  split at hm
  · rename_i hf
    cases hm
    have e : fp = [] := h1.flat hf
    subst e
    exact ⟨Z, _, h'.put h1 (o := []) (fun b hb => by cases hb) (fun b hb => by cases hb) List.nodup_nil ⟨rfl, fun b hb => by cases hb⟩, fun _ z => z⟩
  · obtain ⟨d, f⟩ := r
    cases f with
    | D =>
      cases hm
      exact ⟨Z, _, h'.put h1 (o := fp) (fun b hb => let q := fresh b (h2.2 b hb); ⟨q.1, q.2.1, fun j _ => q.2.2.1 j, q.2.2.2⟩) there h2.1 rfl, fun _ z => z⟩
    | R =>
      cases hm
      obtain ⟨a, q, e, k1, k2, k3⟩ := h2
      have w := shr q (fun b hb => by rw [e]; exact List.mem_cons_of_mem _ hb) k3
      refine ⟨_, _, w.put h1 (o := [a]) (fun b hb => ?_) (fun b hb => there b (by rw [e]; rw [List.mem_singleton.mp hb]; exact List.mem_cons_self)) (by simp) ⟨a, q, e, rfl, fun b hb => .inr hb⟩, fun b z => .inl z⟩
      have eb := List.mem_singleton.mp hb
      subst eb
      have f := fresh b k1
      exact ⟨fun z => z.elim f.1 k2, f.2.1, fun j _ => f.2.2.1 j, f.2.2.2⟩
    | S =>
      cases hm
      have w := shr fp (fun b hb => hb) h2
      exact ⟨_, _, w.put h1 (o := []) (fun b hb => by cases hb) (fun b hb => by cases hb) List.nodup_nil ⟨rfl, fun b hb => .inr hb⟩, fun b z => .inl z⟩
    | BR => cases hm
    | BD => cases hm
/-- an item that is shared already -/
theorem FI.storeS (h : FI p P He L Z ow δ σ H) {i : Nat} {m : Md} {d : D} {v : V} {fp : List Addr} (r : Rf p H v d fp) (hz : ∀ b ∈ fp, Z b) (hm : mdOf ⟨d, .S⟩ = some m) : FI p P He L Z (owp ow i []) (δ.put i m d) (σ.set i (some v)) H := by
  cases mdOf_S hm
  exact h.put r (fun b hb => by cases hb) (fun b hb => by cases hb) List.nodup_nil ⟨rfl, hz⟩
end
end Wh

set_option maxHeartbeats 4000000
/-! Wh, part Q: statements. -/
namespace Wh
open PySem PySem.Spec PyProof.Rows L2

/-- a target's own reading -/
def gT (K : PySem.W.Frag) : Tg → TG
  | .n i => gName i
  | .tup is => gTup K is.length (gNames is)
section
variable {p : Pl} {P : Addr → Prop} {He : Hp} {L : List (Nat × Addr)} {Z : Addr → Prop} {ow : Nat → List Addr} {δ : Env} {σ : L2.St} {H H' : Hp}
/-- new to the frame -/
def Frs (He : Hp) (L : List (Nat × Addr)) (Z : Addr → Prop) (ow : Nat → List Addr) (b : Addr) : Prop := ¬ Z b ∧ He b = none ∧ (∀ j, b ∉ ow j) ∧ ∀ e ∈ L, e.2 ≠ b
theorem FI.frs (h : FI p P He L Z ow δ σ H) {b : Addr} (q : H b = none) : Frs He L Z ow b := ⟨fun z => (h.zp b z).2 q, h.ext.free q, fun j hj => (h.own j b hj).2.2 q, fun e he z => h.lth e he (z ▸ q)⟩
theorem asgL_ok {f : Fl} {Q : L2.St → Hp → Prop} : ∀ {is : List Nat} {vs : List V} {ds : List D} {fp : List Addr} {δ δ' : Env} {σ : L2.St} {ow : Nat → List Addr}, FI p P He L Z ow δ σ H → RfL p H vs ds fp → asgL is ds f δ = some δ' → (f = .S → ∀ b ∈ fp, Z b) → (f = .D → fp.Nodup ∧ ∀ b ∈ fp, Frs He L Z ow b) → f ≠ .R →
    (∀ σ' ow', FI p P He L Z ow' δ' σ' H → Q σ' H) → gNames is vs σ H Q
  | [], _, _, _, _, _, _, _, h, .nil, e, _, _, _, k => by cases e; exact ⟨rfl, k _ _ h⟩
  | [], _, _, _, _, _, _, _, _, .cons _ _, e, _, _, _, _ => by cases e
  | _ :: _, _, _, _, _, _, _, _, _, .nil, e, _, _, _, _ => by cases e
  | i :: is, _, _, _, δ, δ', σ, ow, h, .cons (v := v) (vs := vs) (d := d) (ds := ds) (f1 := f1) (f2 := f2) r t, e, hS, hD, hR, k => by
    have e : (match mdOf ⟨d, f⟩ with | some m => asgL is ds f (δ.put i m d) | none => none) = some δ' := e
    cases q : mdOf ⟨d, f⟩ with
    | none => rw [q] at e; cases e
    | some m =>
      rw [q] at e
      refine ⟨v, vs, rfl, ?_⟩
      unfold mdOf at q
      split at q
      · rename_i hf
        cases q
        have e1 : f1 = [] := r.flat hf
        subst e1
        refine asgL_ok (h.put (m := .S) r (o := []) (fun b hb => by cases hb) (fun b hb => by cases hb) List.nodup_nil ⟨rfl, fun b hb => by cases hb⟩) t e (fun z => (hS z)) (fun z => ?_) hR k
        obtain ⟨n, w⟩ := hD z
        refine ⟨n, fun b hb => ⟨(w b hb).1, (w b hb).2.1, fun j hj => ?_, (w b hb).2.2.2⟩⟩
        by_cases ej : j = i
        · rw [ej, owp_at] at hj; cases hj
        · rw [owp_ne ej] at hj; exact (w b hb).2.2.1 j hj
      · cases f with
        | D =>
          cases q
          obtain ⟨n, w⟩ := hD rfl
          rw [List.nodup_append] at n
          obtain ⟨n1, n2, n3⟩ := n
          refine asgL_ok (h.put (m := .D) r (o := f1) (fun b hb => let q := w b (List.mem_append_left _ hb); ⟨q.1, q.2.1, fun j _ => q.2.2.1 j, q.2.2.2⟩) (fun b hb z => ?_) n1 rfl) t e (fun z => by cases z) (fun _ => ⟨n2, fun b hb => ?_⟩) hR k
          · obtain ⟨us, q, _⟩ := r.there b hb
            rw [q] at z; cases z
          · have q := w b (List.mem_append_right _ hb)
            refine ⟨q.1, q.2.1, fun j hj => ?_, q.2.2.2⟩
            by_cases ej : j = i
            · rw [ej, owp_at] at hj; exact n3 b hj b hb rfl
            · rw [owp_ne ej] at hj; exact q.2.2.1 j hj
        | R => exact absurd rfl hR
        | S =>
          cases q
          refine asgL_ok (h.put (m := .S) r (o := []) (fun b hb => by cases hb) (fun b hb => by cases hb) List.nodup_nil ⟨rfl, fun b hb => hS rfl b (List.mem_append_left _ hb)⟩) t e (fun z b hb => hS rfl b (List.mem_append_right _ hb)) (fun z => by cases z) hR k
        | BR => cases q
        | BD => cases q
theorem asgL_len : ∀ {is : List Nat} {ds : List D} {f : Fl} {δ δ' : Env}, asgL is ds f δ = some δ' → ds.length = is.length
  | [], [], _, _, _, _ => rfl
  | i :: is, d :: ds, f, δ, δ', h => by
    have h : (match mdOf ⟨d, f⟩ with | some m => asgL is ds f (δ.put i m d) | none => none) = some δ' := h
    cases q : mdOf ⟨d, f⟩ with
    | none => rw [q] at h; cases h
    | some m =>
      rw [q] at h
      exact congrArg (· + 1) (asgL_len h)
  | [], _ :: _, _, _, _, h => by cases h
  | _ :: _, [], _, _, _, h => by cases h
/-- what a tuple's items are held as -/
def fT (f : Fl) : Fl := match f with | .D => .D | .BD => .BD | .BR => .BD | _ => .S
theorem FI.items (h : FI p P He L Z ow δ σ H) {H1 : Hp} (e1 : Ext p.g H H1) {is : List Nat} {vs : List V} {ds : List D} {fp : List Addr} {f : Fl} {δ' : Env} {Q : L2.St → Hp → Prop} (r : RfL p H1 vs ds fp) (hh : Hd Z H H f fp) (e : asgL is ds (fT f) δ = some δ')
    (k : ∀ σ' Z' ow', FI p P He L Z' ow' δ' σ' H1 → (∀ b, Z b → Z' b) → Q σ' H1) : gNames is vs σ H1 Q := by
  have h1 := h.up e1
  have there : ∀ b ∈ fp, H1 b ≠ none := fun b hb z => by
    obtain ⟨us, q, _⟩ := r.there b hb
    rw [q] at z; cases z
  have shr : Shd Z H fp → gNames is vs σ H1 Q ∨ True := fun _ => .inr trivial
  have viaS : f.lent = false → fT f = .S → gNames is vs σ H1 Q := fun hl ef => by
    have sh := Hd.all hh hl
    have w : FI p P He L (fun b => Z b ∨ b ∈ fp) ow δ σ H1 := h1.share _ fun b hb => by
      rcases sh b hb with z | z
      · exact ⟨(h.zp b z).1, there b hb, fun j hj => (h.own j b hj).1 z⟩
      · exact ⟨.inr (h.frs z).2.1, there b hb, (h.frs z).2.2.1⟩
    rw [ef] at e
    exact asgL_ok w r e (fun _ b hb => .inr hb) (fun z => by cases z) (by decide) fun σ' ow' w' => k σ' _ ow' w' fun b z => .inl z
  cases f with
  | D => exact asgL_ok h1 r e (fun z => by cases z) (fun _ => ⟨hh.1, fun b hb => h.frs (hh.2 b hb)⟩) (by decide) fun σ' ow' w' => k σ' Z ow' w' fun b z => z
  | R => exact viaS rfl rfl
  | S => exact viaS rfl rfl
  | BR => exact asgL_ok h1 r e (fun z => by cases z) (fun z => by cases z) (by decide) fun σ' ow' w' => k σ' Z ow' w' fun b z => z
  | BD => exact asgL_ok h1 r e (fun z => by cases z) (fun z => by cases z) (by decide) fun σ' ow' w' => k σ' Z ow' w' fun b z => z
/-- a value to a target -/
theorem FI.target (h : FI p P He L Z ow δ σ H) {H1 : Hp} (e1 : Ext p.g H H1) {t : Tg} {r : RV} {v : V} {δ' : Env} {Q : L2.St → Hp → Prop} {K : PySem.W.Frag} (hK : p.K = K) (hv : VR p Z H H r v H1) (e : asgTg t r δ = some δ')
    (k : ∀ σ' Z' ow', FI p P He L Z' ow' δ' σ' H1 → (∀ b, Z b → Z' b) → Q σ' H1) : gT K t v σ H1 Q := by
  cases t with
  | n i =>
    have e : (match mdOf r with | some m => some (δ.put i m r.d) | none => none) = some δ' := e
    cases q : mdOf r with
    | none => rw [q] at e; cases e
    | some m =>
      rw [q] at e
      cases e
      obtain ⟨Z', ow', h2, h3⟩ := h.store e1 hv q (i := i)
      exact k _ Z' ow' h2 h3
  | tup is =>
    obtain ⟨d, f⟩ := r
    cases d with
    | tup ds =>
      have e : asgL is ds (fT f) δ = some δ' := e
      obtain ⟨fp, h1, h2⟩ := hv
      obtain ⟨a, vs, rfl, sq, rl⟩ := h1.tup_
      rw [hK] at sq
      exact ⟨a, vs, rfl, sq, by rw [rl.length]; exact asgL_len e, h.items e1 rl h2 e k⟩
    | pr ds =>
      have e : asgL is ds (fT f) δ = some δ' := e
      obtain ⟨fp, h1, h2⟩ := hv
      obtain ⟨a, vs, rfl, sq, rl⟩ := h1.pr_
      have sq : SqT K H1 a vs := SqT.of sq.1
      exact ⟨a, vs, rfl, sq, by rw [rl.length]; exact asgL_len e, h.items e1 rl h2 e k⟩
    | _ => cases e
end

/-! ### how statements end -/
def SLk (Z : Addr → Prop) (L : List (Nat × Addr)) (b : Addr) : Prop := Z b ∨ ∃ e ∈ L, e.2 = b
/-- a statement's end, seen from the heap H -/
def EndS (p : Pl) (W : WX) (P : Addr → Prop) (He : Hp) (L : List (Nat × Addr)) (Z : Addr → Prop) (H : Hp) (D : Ends) : Out → Prop
  | .nx δ B => ∀ σ' H' Z' ow', FI p P He L Z' ow' δ σ' H' → Amb p B H' → (∀ b, Z b → Z' b) → Kp p H H' (SLk Z L) → D.nx σ' H'
  | .brk δ B => ∀ σ' H' Z' ow', FI p P He L Z' ow' δ σ' H' → Amb p B H' → (∀ b, Z b → Z' b) → Kp p H H' (SLk Z L) → D.bk σ' H'
  | .cnt δ B => ∀ σ' H' Z' ow', FI p P He L Z' ow' δ σ' H' → Amb p B H' → (∀ b, Z b → Z' b) → Kp p H H' (SLk Z L) → D.ct σ' H'
  | .ret r B => ∀ v H', Ext p.g He H' → Amb p B H' → r.f.lent = false → VR p P He He r v H' → D.rt v H'
  | .exc x B => ∀ cls dx σ' H', Ext p.g He H' → Amb p B H' → ExR p x cls dx H' → W cls dx σ' H'
  | .st => False
section
variable {p : Pl} {W : WX} {P : Addr → Prop} {He : Hp} {L : List (Nat × Addr)} {Z Z1 : Addr → Prop} {H H1 : Hp} {D : Ends}
theorem EndS.base {o : Out} (h : EndS p W P He L Z H D o) (hz : ∀ b, Z b → Z1 b) (k : Kp p H H1 (SLk Z L)) : EndS p W P He L Z1 H1 D o := by
  have up : ∀ x, SLk Z L x → SLk Z1 L x := fun x hx => hx.elim (fun z => .inl (hz x z)) .inr
  cases o with
  | nx δ B => exact fun σ' H' Z' ow' f a s k' => h σ' H' Z' ow' f a (fun b z => s b (hz b z)) (k.trans k' up)
  | brk δ B => exact fun σ' H' Z' ow' f a s k' => h σ' H' Z' ow' f a (fun b z => s b (hz b z)) (k.trans k' up)
  | cnt δ B => exact fun σ' H' Z' ow' f a s k' => h σ' H' Z' ow' f a (fun b z => s b (hz b z)) (k.trans k' up)
  | ret r B => exact h
  | exc x B => exact h
  | st => exact h
end
def rdS (p : Pl) (C : Cs) (W : WX) (Wb : Nat) (s : S) (lk : List Nat) : TS := fun D σ H => ∃ δ B P He L Z ow, FI p P He L Z ow δ σ H ∧ Amb p B H ∧ (∀ e ∈ L, e.1 ∈ lk) ∧ EndS p W P He L Z H D (exS C Wb s lk δ B)
def rdSL (p : Pl) (C : Cs) (W : WX) (Wb : Nat) (s : SL) (lk : List Nat) : TS := fun D σ H => ∃ δ B P He L Z ow, FI p P He L Z ow δ σ H ∧ Amb p B H ∧ (∀ e ∈ L, e.1 ∈ lk) ∧ EndS p W P He L Z H D (exL C Wb s lk δ B)
theorem _root_.L2.PS.weak {X : Cx} {e : Stmt} {t t' : TS} (h : PS X e t) (w : ∀ D σ H, t' D σ H → t D σ H) : PS X e t' := ⟨fun pins s σ H D I q => h.run pins s σ H D I (w D σ H q)⟩
theorem _root_.L2.PSs.weak {X : Cx} {e : List Stmt} {t t' : TS} (h : PSs X e t) (w : ∀ D σ H, t' D σ H → t D σ H) : PSs X e t' := ⟨fun pins s σ H D I q => h.run pins s σ H D I (w D σ H q)⟩
section
variable {X : Cx} {p : Pl} {C : Cs} {W : WX} {Wb : Nat} {lk : List Nat}
/-- an expression within a statement -/
theorem post_of {α : Type} {P : Addr → Prop} {He : Hp} {L : List (Nat × Addr)} {Z : Addr → Prop} {H : Hp} {D : Ends} {σ : L2.St} {r : Res α} {f : α → Bag → Out} (he : Ext p.g He H) (h : EndS p W P He L Z H D (ofRes r f)) : PostG p W σ H r fun a B H' => EndS p W P He L Z H' D (f a B) := by
  cases r with
  | ok a B => exact fun H' e am => EndS.base (o := f a B) h (fun _ z => z) (.of_ext e _)
  | exc x B => exact fun cls dx H' e am q => h cls dx σ H' (he.trans e) am q
  | st => exact h.elim
theorem FI.pre {P : Addr → Prop} {He : Hp} {L : List (Nat × Addr)} {Z : Addr → Prop} {ow : Nat → List Addr} {δ : Env} {σ : L2.St} {H : Hp} {B : Bag} (h : FI p P He L Z ow δ σ H) (a : Amb p B H) : Pre p δ B Z H σ H := ⟨h.env, .refl _ _, a⟩
theorem s_nil : PSs X [] (rdSL p C W Wb .nil lk) := pss_nil.weak fun D σ H ⟨δ, B, P, He, L, Z, ow, fi, am, hl, e⟩ => e σ H Z ow fi am (fun _ z => z) .refl
theorem s_cons {st : Stmt} {rest : List Stmt} {s : S} {r : SL} (h1 : PS X st (rdS p C W Wb s lk)) (h2 : PSs X rest (rdSL p C W Wb r lk)) : PSs X (st :: rest) (rdSL p C W Wb (.cons s r) lk) := by
  refine (pss_cons h1 h2).weak fun D σ H ⟨δ, B, P, He, L, Z, ow, fi, am, hl, e⟩ => ⟨δ, B, P, He, L, Z, ow, fi, am, hl, ?_⟩
  have e : EndS p W P He L Z H D (match exS C Wb s lk δ B with | .nx δ B => exL C Wb r lk δ B | o => o) := e
  revert e
  cases exS C Wb s lk δ B with
  | nx δ' B' => exact fun e σ' H' Z' ow' f a hz k => ⟨δ', B', P, He, L, Z', ow', f, a, hl, EndS.base (o := exL C Wb r lk δ' B') e hz k⟩
  | brk δ' B' => exact fun e => e
  | cnt δ' B' => exact fun e => e
  | ret r B' => exact fun e => e
  | exc x B' => exact fun e => e
  | st => exact fun e => e
theorem s_pas {pos : Pos} : PS X (.Pass pos) (rdS p C W Wb .pas lk) := ps_pass.weak fun D σ H ⟨δ, B, P, He, L, Z, ow, fi, am, hl, e⟩ => e σ H Z ow fi am (fun _ z => z) .refl
theorem s_brk {pos : Pos} : PS X (.Break pos) (rdS p C W Wb .brk lk) := ps_break.weak fun D σ H ⟨δ, B, P, He, L, Z, ow, fi, am, hl, e⟩ => e σ H Z ow fi am (fun _ z => z) .refl
theorem s_cnt {pos : Pos} : PS X (.Continue pos) (rdS p C W Wb .cnt lk) := ps_continue.weak fun D σ H ⟨δ, B, P, He, L, Z, ow, fi, am, hl, e⟩ => e σ H Z ow fi am (fun _ z => z) .refl
theorem s_ex {e : Expr} {e' : E} {pos : Pos} (he : PE X e (rdE p C W e')) (hs : swapsWith e none pos.line X.env = pure false) : PS X (.Expr e pos) (rdS p C W Wb (.ex e') lk) := by
  refine (ps_expr he hs).weak fun D σ H ⟨δ, B, P, He, L, Z, ow, fi, am, hl, e⟩ => ?_
  refine rdX_use (fi.pre am) (post_of (r := ev C e' false δ B) fi.ext e) fun r B1 H1 e1 a1 h1 v hv => ?_
  exact h1 σ H1 Z ow (fi.up e1) a1 (fun _ z => z) .refl
theorem s_ite {c : Expr} {c' : E} {a b : List Stmt} {a' b' : SL} {pos : Pos} (hc : PT X c (rdT p C W c')) (ha : PSs X a (rdSL p C W Wb a' lk)) (hb : PSs X b (rdSL p C W Wb b' lk)) : PS X (.If c a b pos) (rdS p C W Wb (.ite c' a' b') lk) := by
  refine (ps_if hc ha hb).weak fun D σ H ⟨δ, B, P, He, L, Z, ow, fi, am, hl, e⟩ => ?_
  refine rdY_use (fi.pre am) (post_of (r := ev C c' true δ B) fi.ext e) fun r B1 H1 e1 a1 h1 => ?_
  obtain ⟨d, f⟩ := r
  cases d with
  | bl t =>
    refine ⟨t, rfl, ?_⟩
    cases t with
    | true => rw [if_pos rfl]; exact ⟨δ, B1, P, He, L, Z, ow, fi.up e1, a1, hl, h1⟩
    | false => rw [if_neg Bool.false_ne_true]; exact ⟨δ, B1, P, He, L, Z, ow, fi.up e1, a1, hl, h1⟩
  | _ => exact h1.elim
theorem s_retN {pos : Pos} : PS X (.Return none pos) (rdS p C W Wb .retN lk) := ps_retN.weak fun D σ H ⟨δ, B, P, He, L, Z, ow, fi, am, hl, e⟩ => e .non H fi.ext am rfl (.plain .non)
/-- what the frame gives away -/
theorem FI.give {P : Addr → Prop} {He : Hp} {L : List (Nat × Addr)} {Z : Addr → Prop} {ow : Nat → List Addr} {δ : Env} {σ : L2.St} {H H1 : Hp} (h : FI p P He L Z ow δ σ H) {r : RV} {v : V} (hv : VR p Z H H r v H1) (hl : r.f.lent = false) : VR p P He He r v H1 := by
  obtain ⟨fp, h1, h2⟩ := hv
  have up : ∀ b, Z b ∨ H b = none → P b ∨ He b = none := fun b q => q.elim (fun z => (h.zp b z).1) fun z => .inr (h.ext.free z)
  refine ⟨fp, h1, ?_⟩
  obtain ⟨d, f⟩ := r
  cases f with
  | D => exact ⟨h2.1, fun a ha => h.ext.free (h2.2 a ha)⟩
  | R =>
    obtain ⟨a, q, k1, k2, k3, k4⟩ := h2
    exact ⟨a, q, k1, h.ext.free k2, k3, fun b hb => up b (k4 b hb)⟩
  | S => exact fun b hb => up b (h2 b hb)
  | BR => cases hl
  | BD => cases hl
theorem s_retv {e : Expr} {i : Nat} {pos : Pos} (he : PE X e (tVar i)) : PS X (.Return (some e) pos) (rdS p C W Wb (.ret (.v i)) lk) := by
  refine (ps_ret he).weak fun D σ H ⟨δ, B, P, He, L, Z, ow, fi, am, hl, e⟩ => ?_
  have e : EndS p W P He L Z H D (match δ.get i with | some (m, d) => .ret ⟨d, if d.flat then .D else match m with | .S => .S | .R => .R | .D => .D⟩ B | none => .st) := e
  cases q : δ.get i with
  | none => rw [q] at e; exact e.elim
  | some md =>
    obtain ⟨m, d⟩ := md
    rw [q] at e
    obtain ⟨v, fp, h1, h2, h3⟩ := fi.at_ i m d q
    have up : ∀ b, Z b → P b ∨ He b = none := fun b z => (fi.zp b z).1
    have e : ∀ v H', Ext p.g He H' → Amb p B H' → (if d.flat then Fl.D else match m with | .S => .S | .R => .R | .D => .D).lent = false → VR p P He He ⟨d, if d.flat then Fl.D else match m with | .S => .S | .R => .R | .D => .D⟩ v H' → D.rt v H' := e
    refine ⟨v, h1, e v H fi.ext am ?_ ?_⟩
    · by_cases hf : d.flat = true
      · rw [if_pos hf]; rfl
      · rw [if_neg hf]; cases m <;> rfl
    · by_cases hf : d.flat = true
      · rw [if_pos hf]; exact .of_flat h2 hf
      · rw [if_neg hf]
        refine ⟨fp, h2, ?_⟩
        cases m with
        | S => exact fun b hb => up b (h3 b hb)
        | R =>
          obtain ⟨a, r, k1, k2, k3⟩ := h3
          have o := fi.own i a (by rw [k2]; exact List.mem_cons_self)
          exact ⟨a, r, k1, o.2.1, fun z => o.1 (k3 a z), fun b hb => up b (k3 b hb)⟩
        | D =>
          have h3 : ow i = fp := h3
          exact ⟨h3 ▸ fi.nd i, fun b hb => (fi.own i b (h3 ▸ hb)).2.1⟩
/-- what is not a name alone -/
def E.isV : E → Bool
  | .v _ => true
  | _ => false
theorem s_ret {e : Expr} {e' : E} {pos : Pos} (hv : e'.isV = false) (he : PE X e (rdE p C W e')) : PS X (.Return (some e) pos) (rdS p C W Wb (.ret e') lk) := by
  refine (ps_ret he).weak fun D σ H ⟨δ, B, P, He, L, Z, ow, fi, am, hl, e⟩ => ?_
  have e : EndS p W P He L Z H D (ofRes (ev C e' false (freeze δ (occ e' 2)) B) fun r B => if r.f.lent then .st else .ret r B) := by
    cases e' <;> first | exact e | cases hv
  obtain ⟨Z1, ow1, fi1, hz⟩ := fi.freeze (l := occ e' 2)
  have e := e.base (Z1 := Z1) hz .refl
  refine rdX_use (fi1.pre am) (post_of (r := ev C e' false (freeze δ (occ e' 2)) B) fi1.ext e) fun r B1 H1 e1 a1 h1 v hv => ?_
  split at h1
  · exact h1.elim
  · rename_i nl
    have nl : r.f.lent = false := by simpa using nl
    exact h1 v H1 (fi1.ext.trans e1) a1 nl (fi1.give hv nl)
theorem exS_asg {t : Tg} {e' : E} {δ : Env} {B : Bag} (h : (match t with | .n _ => e'.isV | _ => false) = false) : exS C Wb (.asg t e') lk δ B = ofRes (ev C e' false (freeze δ (occ e' 2)) B) fun r B => match asgTg t r (freeze δ (occ e' 2)) with
    | some δ => .nx δ B
    | none => .st := by
  cases t with
  | n i => cases e' <;> first | rfl | cases h
  | tup is => cases e' <;> rfl
/-- from a value's reading to a store -/
theorem asg_weak {t : Tg} {e' : E} (h : (match t with | .n _ => e'.isV | _ => false) = false) (hK : p.K = X.K) {D : Ends} {σ : L2.St} {H : Hp} (e : rdS p C W Wb (.asg t e') lk D σ H) : tAsg (rdE p C W e') (gT X.K t) D σ H := by
  obtain ⟨δ, B, P, He, L, Z, ow, fi, am, hl, e⟩ := e
  rw [exS_asg h] at e
  obtain ⟨Z1, ow1, fi1, hz⟩ := fi.freeze (l := occ e' 2)
  have e := e.base (Z1 := Z1) hz .refl
  refine rdX_use (fi1.pre am) (post_of (r := ev C e' false (freeze δ (occ e' 2)) B) fi1.ext e) fun r B1 H1 e1 a1 h1 v hv => ?_
  cases q : asgTg t r (freeze δ (occ e' 2)) with
  | none => rw [q] at h1; exact h1.elim
  | some δ' =>
    rw [q] at h1
    exact fi1.target e1 hK hv q fun σ' Z' ow' f s => h1 σ' H1 Z' ow' f a1 s .refl
end
end Wh

set_option maxHeartbeats 4000000
/-! Wh, part R: stores of other kinds, methods that change a list, loops, raise. -/
namespace Wh
open PySem PySem.Spec PyProof.Rows L2

section
variable {X : Cx} {p : Pl} {C : Cs} {W : WX} {Wb : Nat} {lk : List Nat}
theorem get_put_same {δ : Env} {i : Nat} {m m' : Md} {d d' : D} (h : δ.get i = some (m, d)) : (δ.put i m' d').get i = some (m', d') := by
  unfold Env.get Env.put at *
  have hl : i < δ.length := by
    rcases Nat.lt_or_ge i δ.length with q | q
    · exact q
    · rw [List.getElem?_eq_none q] at h; cases h
  rw [List.getElem?_set_self hl]
/-- name = name -/
theorem s_asgv {tg e : Expr} {i j : Nat} {pos : Pos} (he : PE X e (tVar i)) (pa : ∀ te, PE X e te → PS X (.Assign [tg] e pos) (tAsg te (gName j))) : PS X (.Assign [tg] e pos) (rdS p C W Wb (.asg (.n j) (.v i)) lk) := by
  refine (pa _ he).weak fun D σ H ⟨δ, B, P, He, L, Z, ow, fi, am, hl, e⟩ => ?_
  have e : EndS p W P He L Z H D (match δ.get i with | some (_, d) => .nx ((δ.put i .S d).put j .S d) B | none => .st) := e
  cases q : δ.get i with
  | none => rw [q] at e; exact e.elim
  | some md =>
    obtain ⟨m, d⟩ := md
    rw [q] at e
    obtain ⟨Z1, ow1, fi1, hz⟩ := fi.freeze1 (i, 2)
    have hf : freeze1 δ (i, 2) = δ.put i .S d := by unfold freeze1; rw [q]; rfl
    rw [hf] at fi1
    obtain ⟨v, fp, h1, h2, h3⟩ := fi1.at_ i .S d (get_put_same q)
    exact ⟨v, h1, e _ H Z1 _ (fi1.put (m := .S) (i := j) h2 (o := []) (fun b hb => by cases hb) (fun b hb => by cases hb) List.nodup_nil ⟨rfl, h3⟩) am hz .refl⟩
/-- target = value, any form that the library reads as tAsg -/
theorem s_asg {st : Stmt} {t : Tg} {e' : E} (h : (match t with | .n _ => e'.isV | _ => false) = false) (hK : p.K = X.K) (pa : PS X st (tAsg (rdE p C W e') (gT X.K t))) : PS X st (rdS p C W Wb (.asg t e') lk) := pa.weak fun D σ H e => asg_weak h hK e
/-- a, b = x, y with names of the frame -/
theorem s_par {st : Stmt} {i j : Nat} {a' b' : E} {es : List Expr} (hK : p.K = X.K) (ha : PA X es (rdL p C W (.cons a' (.cons b' .nil)))) (pa : ∀ ta, PA X es ta → PS X st (tPar i j ta)) : PS X st (rdS p C W Wb (.asg (.tup [i, j]) (.tup (.cons a' (.cons b' .nil)))) lk) := by
  refine (pa _ ha).weak fun D σ H ⟨δ, B, P, He, L, Z, ow, fi, am, hl, e⟩ => ?_
  rw [exS_asg rfl] at e
  obtain ⟨Z1, ow1, fi1, hz⟩ := fi.freeze (l := occ (.tup (.cons a' (.cons b' .nil))) 2)
  have e := e.base (Z1 := Z1) hz .refl
  generalize freeze δ (occ (.tup (.cons a' (.cons b' .nil))) 2) = δ1 at fi1 e
  refine rdL_len (fi1.pre am) (PostG.bind (r := evL C (.cons a' (.cons b' .nil)) δ1 B) (post_of (r := ev C (.tup (.cons a' (.cons b' .nil))) false δ1 B) fi1.ext e)) fun rs B1 H1 e1 a1 hl1 h1 vs hl2 hvs => ?_
  obtain ⟨r, hr, h2⟩ := PostG.opt (PostG.bind h1)
  have h3 := h2 H1 (.refl _ _) a1 H1 (.refl _ _) a1
  dsimp only at h3
  obtain ⟨v, w, rfl⟩ := two_of hl2
  obtain ⟨fp, k1, k2, k3⟩ := hvs.kids (.refl _ _)
  refine ⟨v, w, rfl, ?_⟩
  cases q : asgTg (.tup [i, j]) r δ1 with
  | none => rw [q] at h3; exact h3.elim
  | some δ' =>
    rw [q] at h3
    -- the tuple that would be
    obtain ⟨fl, hr2, hh⟩ : ∃ fl, r = ⟨.tup (rs.map (·.d)), fl⟩ ∧ Hd Z1 H H fl fp := by
      unfold flagU at hr
      split at hr
      · cases hr
      · split at hr
        · rename_i c
          cases hr
          exact ⟨_, rfl, k3 c⟩
        · split at hr
          · cases hr
          · rename_i c
            cases hr
            exact ⟨_, rfl, k2 (by simpa using c)⟩
    subst hr2
    have q : asgL [i, j] (rs.map (·.d)) (fT fl) δ1 = some δ' := q
    have := fi1.items (Q := D.nx) e1 k1 hh q fun σ' Z' ow' f s => h3 σ' H1 Z' ow' f a1 s .refl
    obtain ⟨x, r1, ex, x2⟩ := this
    cases ex
    obtain ⟨y, r2, ey, y2⟩ := x2
    cases ey
    exact y2.2
/-- name += e, ints -/
theorem s_aug {st : Stmt} {i : Nat} {o : O2} {e : Expr} {e' : E} {f : Int → Int → Int} (ho : ∀ a b fa fb z, o2F o ⟨.int a, fa⟩ ⟨.int b, fb⟩ = some z → z.d = .int (f a b)) (he : PE X e (rdE p C W e')) (pa : ∀ te, PE X e te → PS X st (tAug i te (ipI f))) : PS X st (rdS p C W Wb (.aug i o e') lk) := by
  refine (pa _ he).weak fun D σ H ⟨δ, B, P, He, L, Z, ow, fi, am, hl, e⟩ => ?_
  have e : EndS p W P He L Z H D (match slot δ i with
    | some x => ofRes (ev C e' false δ B) fun r B => match x.d, r.d with
      | .int _, .int _ => (match o2F o x r with
        | some z => .nx (δ.put i .S z.d) B
        | none => .st)
      | _, _ => .st
    | none => .st) := e
  cases q : δ.get i with
  | none =>
    have q2 : slot δ i = none := by unfold slot; rw [q]
    rw [q2] at e
    exact e.elim
  | some md =>
    obtain ⟨m, d⟩ := md
    obtain ⟨v, fp, h1, h2, h3⟩ := fi.at_ i m d q
    obtain ⟨fl, q2⟩ : ∃ fl, slot δ i = some ⟨d, fl⟩ := ⟨_, by unfold slot; rw [q]⟩
    rw [q2] at e
    refine ⟨v, h1, rdX_use (fi.pre am) (post_of (r := ev C e' false δ B) fi.ext e) fun r B1 H1 e1 a1 k1 w hw => ?_⟩
    obtain ⟨rd, rf⟩ := r
    cases d with
    | int a =>
      cases rd with
      | int b =>
        cases h2.int_
        obtain ⟨fp2, rf2⟩ := hw.rf
        cases rf2.int_
        refine ⟨a, b, rfl, rfl, ?_⟩
        dsimp only at k1
        cases q3 : o2F o ⟨.int a, fl⟩ ⟨.int b, rf⟩ with
        | none => rw [q3] at k1; exact k1.elim
        | some z =>
          rw [q3] at k1
          have hz := ho a b fl rf z q3
          dsimp only at k1
          rw [hz] at k1
          exact k1 _ H1 Z _ ((fi.up e1).put (m := .S) (i := i) (.int _) (o := []) (fun b hb => by cases hb) (fun b hb => by cases hb) List.nodup_nil ⟨rfl, fun b hb => by cases hb⟩) a1 (fun _ z => z) .refl
      | _ => exact k1.elim
    | _ => cases rd <;> exact k1.elim

/-! ### raise -/
theorem pmk_own0 {Ca : Addr} {bmB : List Value} {Bn newId initId : String} {x : Str} {q0 pos : Pos} (F : ExcBaseFacts Bn newId initId bmB) (q : PySem.W.excIn X.K Ca bmB newId = true) (gC : X.mg x = some (.ref Ca)) (kC : PySem.W.keepIn X.K (.ref Ca) = true) (r : Raises X (.ref Ca)) (hg : Gl X x)
    (hdb : (x == ("__debug__" : Str)) = false) : PMk X (.Call (.Name x q0) [] [] pos) (fun _ H Q => Q (.ref Ca) none H) := by
  intro pins s σ H Q I h
  refine wpAny_Call_Name_kw (ld_glob I hg gC ?_ hdb)
  refine PySem.W.callWith_K0 I.kIn kC ?_
  show wpAny _ _ (call (.ref Ca) []) _ _ _
  obtain ⟨bm, Nn, nm, qn, bs, hdct, sn, sub, ab, col, dd, k0, k1, k2, k3, k5, mN, hC, hN, hni, T⟩ := exc_obj I.kIn q
  exact wpAny_call_exc_subT F T hC hN hni (fun h' e hm => mk_of I hm r h (I.hok.gone hm.new)) (by show 0 ≤ sizeLine; rw [sizeLine_eq]; omega)
theorem s_raise {c : Nat} {x : Str} {q0 pos pos2 : Pos} (hK : p.K = X.K) (hc : X.calm = true) (tk : Takes X W) (hg : Gl X x) (hm : ExcOk p X.mg x c) (hdb : (x == ("__debug__" : Str)) = false) :
    PS X (.Raise (some (.Call (.Name x q0) [] [] pos)) none pos2) (rdS p C W Wb (.raise c .nil) lk) := by
  obtain ⟨g1, g2, g3, g4, bmB, Bn, newId, initId, g5, g6⟩ := hm
  rw [hK] at g2 g3 g4 g6
  refine (ps_raise hc tk (pmk_own0 g5 g6 g1 g2 (raises_own g3 g4) hg hdb)).weak fun D σ H ⟨δ, B, P, He, L, Z, ow, fi, am, hl, e⟩ => ?_
  have e : ∀ cls dx σ' H', Ext p.g He H' → Amb p B H' → ExR p ⟨c, []⟩ cls dx H' → W cls dx σ' H' := e
  exact e _ _ σ H fi.ext am ⟨rfl, rfl, rfl⟩
/-! ### while -/
theorem s_whl {c : Expr} {c' : E} {b : List Stmt} {b' : SL} {pos : Pos} (hp : PassesOwn (model X.prog X.w) X.A X.env X.xe) (hc : PT X c (rdT p C W c')) (hb : PSs X b (rdSL p C W Wb b' lk)) : PS X (.While c b [] pos) (rdS p C W Wb (.whl c' b') lk) := by
  refine (ps_while hp hc hb).weak fun D σ H ⟨δ, B, P, He, L, Z, ow, fi, am, hl, e⟩ => ?_
  have e : EndS p W P He L Z H D (whlGo (fun δ B => ev C c' true δ B) (fun δ B => exL C Wb b' lk δ B) Wb δ B) := e
  generalize hg : whlGo (fun δ B => ev C c' true δ B) (fun δ B => exL C Wb b' lk δ B) = G at e
  let Wi : Nat → L2.St → Hp → Prop := fun m σ H => ∃ δ B Z ow, FI p P He L Z ow δ σ H ∧ Amb p B H ∧ EndS p W P He L Z H D (G m δ B)
  refine ⟨Wi, ⟨Wb, δ, B, Z, ow, fi, am, e⟩, ?_⟩
  rintro m σ H ⟨δ, B, Z, ow, fi, am, e⟩
  cases m with
  | zero => rw [← hg] at e; exact e.elim
  | succ n =>
    rw [← hg] at e
    have e : EndS p W P He L Z H D (ofRes (ev C c' true δ B) fun r B => match r.d with
      | .bl true => (match exL C Wb b' lk δ B with
        | .nx δ B => whlGo (fun δ B => ev C c' true δ B) (fun δ B => exL C Wb b' lk δ B) n δ B
        | .cnt δ B => whlGo (fun δ B => ev C c' true δ B) (fun δ B => exL C Wb b' lk δ B) n δ B
        | .brk δ B => .nx δ B
        | o => o)
      | .bl false => .nx δ B
      | _ => .st) := e
    rw [hg] at e
    refine rdY_use (fi.pre am) (post_of (r := ev C c' true δ B) fi.ext e) fun r B1 H1 e1 a1 h1 => ?_
    obtain ⟨d, f⟩ := r
    cases d with
    | bl t =>
      refine ⟨t, rfl, ?_⟩
      cases t with
      | false =>
        rw [if_neg Bool.false_ne_true]
        exact h1 σ H1 Z ow (fi.up e1) a1 (fun _ z => z) .refl
      | true =>
        rw [if_pos rfl]
        refine ⟨Wi n, fun σ' H' w => ⟨n, Nat.lt_succ_self n, w⟩, δ, B1, P, He, L, Z, ow, fi.up e1, a1, hl, ?_⟩
        dsimp only at h1
        revert h1
        cases exL C Wb b' lk δ B1 with
        | nx δ2 B2 => exact fun h1 σ' H' Z' ow' f a s k => ⟨δ2, B2, Z', ow', f, a, EndS.base (o := G n δ2 B2) h1 s k⟩
        | cnt δ2 B2 => exact fun h1 σ' H' Z' ow' f a s k => ⟨δ2, B2, Z', ow', f, a, EndS.base (o := G n δ2 B2) h1 s k⟩
        | brk δ2 B2 => exact fun h1 => h1
        | ret r B2 => exact fun h1 => h1
        | exc x B2 => exact fun h1 => h1
        | st => exact fun h1 => h1
    | _ => exact h1.elim
end
end Wh

set_option maxHeartbeats 4000000
/-! Wh, part U: for, append, extend. -/
namespace Wh
open PySem PySem.Spec PyProof.Rows L2

/-- how a name lends its value -/
def flM : Md → Fl
  | .S => .S | .R => .BR | .D => .BD
def flOf (m : Md) (d : D) : Fl := if d.flat then .D else flM m
theorem slot_get {δ : Env} {i : Nat} {m : Md} {d : D} (q : δ.get i = some (m, d)) : slot δ i = some ⟨d, flOf m d⟩ := by
  unfold slot
  rw [q]
  cases m <;> rfl
section
variable {X : Cx} {p : Pl} {C : Cs} {W : WX} {Wb : Nat} {lk : List Nat}
/-- the turns of a for statement -/
theorem for_turns {t : Tg} {b' : SL} {lk' : List Nat} {P : Addr → Prop} {He : Hp} {L L' : List (Nat × Addr)} {Z : Addr → Prop} {ow : Nat → List Addr} {δ : Env} {B : Bag} {σ : L2.St} {H Hc : Hp} {D : Ends} {ds : List Wh.D} {J : It} {fs : List Addr} {Z0 : Addr → Prop} {H0 : Hp} {K : PySem.W.Frag} (hK : p.K = K)
    (fi : FI p P He L' Z ow δ σ H) (am : Amb p B H) (hL : ∀ e ∈ L', e.1 ∈ lk') (hLL : ∀ e ∈ L, e ∈ L') (kp : Kp p Hc H (SLk Z L')) (wlk : Wlk p Z0 H0 ds J Hc fs) (hfs : ∀ b ∈ fs, SLk Z L' b) (hsh : ∀ b, b ∈ fs → Z0 b ∨ H0 b = none → Z b)
    (e : EndS p W P He L Z H D (forGo (fun d δ B => match asgTg t ⟨d, .S⟩ δ with | some δ => exL C Wb b' lk' δ B | none => .st) ds δ B)) :
    ∃ Wi : Nat → Nat → L2.St → Hp → Prop, (∃ m, Wi 0 m σ H) ∧ ∀ i m σ H, Wi i m σ H →
      (J.stop i H ∧ D.nx σ H) ∨ (J.go i H ∧ ∃ N : L2.St → Hp → Prop, (∀ σ' H', N σ' H' → ∃ m', m' < m ∧ Wi (i + 1) m' σ' H') ∧ ∀ x H', J.yld i H x H' → gT K t x σ H' fun σ2 H2 => rdSL p C W Wb b' lk' { D with nx := N, ct := N, bk := D.nx } σ2 H2) := by
  generalize hF : (fun (d : Wh.D) (δ : Env) (B : Bag) => match asgTg t ⟨d, .S⟩ δ with | some δ => exL C Wb b' lk' δ B | none => .st) = F at e
  let St : Nat → L2.St → Hp → Prop := fun i σ H => i ≤ ds.length ∧ ∃ δ B Z' ow', FI p P He L' Z' ow' δ σ H ∧ Amb p B H ∧ (∀ b, Z b → Z' b) ∧ Kp p Hc H (SLk Z L') ∧ EndS p W P He L Z' H D (forGo F (ds.drop i) δ B)
  refine ⟨fun i m σ H => m = ds.length - i ∧ St i σ H, ⟨ds.length, rfl, Nat.zero_le _, δ, B, Z, ow, fi, am, fun _ z => z, kp, e⟩, ?_⟩
  rintro i m σ H ⟨rfl, hi, δ, B, Z', ow', fi, am, hz, kp, e⟩
  have kpf : Keeps p Hc H fs := kp.keeps hfs
  rcases Nat.lt_or_ge i ds.length with hlt | hge
  · have hdrop : ds.drop i = ds[i] :: ds.drop (i + 1) := by rw [List.drop_eq_getElem_cons hlt]
    rw [hdrop] at e
    have e : EndS p W P He L Z' H D (match F ds[i] δ B with
      | .nx δ B => forGo F (ds.drop (i + 1)) δ B
      | .cnt δ B => forGo F (ds.drop (i + 1)) δ B
      | .brk δ B => .nx δ B
      | o => o) := e
    refine .inr ⟨wlk.go i H kpf hlt, St (i + 1), fun σ' H' st => ⟨ds.length - (i + 1), by omega, rfl, st⟩, fun x H' y => ?_⟩
    obtain ⟨sm, d', fp1, hd', rf, shd, sub⟩ := wlk.yld i H x H' kpf am.there hlt y
    have hd' : ds[i] = d' := by rw [List.getElem?_eq_getElem hlt] at hd'; exact Option.some.inj hd'
    rw [hd'] at e
    have ex : Ext p.g H H' := .of_same sm
    have fi' := fi.up ex
    have am' : Amb p B H' := am.same sm
    have hfp : ∀ b ∈ fp1, Z' b := fun b hb => hz b (hsh b (sub b hb) (shd b hb))
    have e := e.base (Z1 := Z') (fun _ z => z) (.of_ext ex _)
    have kp' : Kp p Hc H' (SLk Z L') := kp.trans (.of_ext ex _) fun _ z => z
    have body : ∀ δ2 σ2 ow2, asgTg t ⟨d', .S⟩ δ = some δ2 → FI p P He L' Z' ow2 δ2 σ2 H' → rdSL p C W Wb b' lk' { D with nx := St (i + 1), ct := St (i + 1), bk := D.nx } σ2 H' := fun δ2 σ2 ow2 q f2 => by
      have hFv : F d' δ B = exL C Wb b' lk' δ2 B := by rw [← hF]; dsimp only; rw [q]
      rw [hFv] at e
      refine ⟨δ2, B, P, He, L', Z', ow2, f2, am', hL, ?_⟩
      have subL : ∀ x, SLk Z' L x → SLk Z' L' x := fun x hx => hx.elim .inl fun ⟨e0, h1, h2⟩ => .inr ⟨e0, hLL e0 h1, h2⟩
      have subZ : ∀ x, SLk Z L' x → SLk Z' L' x := fun x hx => hx.elim (fun z => .inl (hz x z)) .inr
      revert e
      cases exL C Wb b' lk' δ2 B with
      | nx δ3 B3 => exact fun e σ' H3 Z3 ow3 f a s k => ⟨hlt, δ3, B3, Z3, ow3, f, a, fun b z => s b (hz b z), kp'.trans k subZ, EndS.base (o := forGo F (ds.drop (i + 1)) δ3 B3) e s (k.sub subL)⟩
      | cnt δ3 B3 => exact fun e σ' H3 Z3 ow3 f a s k => ⟨hlt, δ3, B3, Z3, ow3, f, a, fun b z => s b (hz b z), kp'.trans k subZ, EndS.base (o := forGo F (ds.drop (i + 1)) δ3 B3) e s (k.sub subL)⟩
      | brk δ3 B3 => exact fun e σ' H3 Z3 ow3 f a s k => e σ' H3 Z3 ow3 (f.less hLL) a s (k.sub subL)
      | ret r B3 => exact fun e => e
      | exc x B3 => exact fun e => e
      | st => exact fun e => e
    cases q : asgTg t ⟨d', .S⟩ δ with
    | none =>
      have hFv : F d' δ B = .st := by rw [← hF]; dsimp only; rw [q]
      rw [hFv] at e
      exact e.elim
    | some δ2 =>
      cases t with
      | n j =>
        have q' : (match mdOf ⟨d', .S⟩ with | some m => some (δ.put j m d') | none => none) = some δ2 := q
        cases qm : mdOf ⟨d', .S⟩ with
        | none => rw [qm] at q'; cases q'
        | some m =>
          rw [qm] at q'
          cases q'
          exact body _ _ _ q (fi'.storeS rf hfp qm)
      | tup is =>
        cases d' with
        | tup es =>
          have q' : asgL is es .S δ = some δ2 := q
          obtain ⟨a, vs, rfl, sq, rl⟩ := rf.tup_
          rw [hK] at sq
          exact ⟨a, vs, rfl, sq, by rw [rl.length]; exact asgL_len q', asgL_ok fi' rl q' (fun _ => hfp) (fun z => by cases z) (by decide) fun σ' ow3 f => body _ _ _ q f⟩
        | pr es =>
          have q' : asgL is es .S δ = some δ2 := q
          obtain ⟨a, vs, rfl, sq, rl⟩ := rf.pr_
          have sq : SqT K H' a vs := SqT.of sq.1
          exact ⟨a, vs, rfl, sq, by rw [rl.length]; exact asgL_len q', asgL_ok fi' rl q' (fun _ => hfp) (fun z => by cases z) (by decide) fun σ' ow3 f => body _ _ _ q f⟩
        | _ => cases q
  · have hi' : i = ds.length := Nat.le_antisymm hi hge
    subst hi'
    rw [List.drop_length] at e
    exact .inl ⟨wlk.stop H kpf, e σ H Z' ow' (fi.less hLL) am (fun _ z => z) .refl⟩
/-- over what is not a name alone -/
theorem s_for {tg iter : Expr} {b : List Stmt} {t : Tg} {s : Src} {b' : SL} {pos : Pos} (hs : ∀ i, s ≠ .v i) (hK : p.K = X.K) (hi : PI X tg iter (rdI p C W true s)) (hb : PSs X b (rdSL p C W Wb b' lk))
    (pf : ∀ wi tb, PI X tg iter wi → PSs X b tb → PS X (.For tg iter b [] pos) (tFor wi (gT X.K t) tb)) : PS X (.For tg iter b [] pos) (rdS p C W Wb (.for_ t s b') lk) := by
  have hlk : lockOf s = [] := by cases s <;> first | rfl | exact absurd rfl (hs _)
  refine (pf _ _ hi hb).weak fun D σ H ⟨δ, B, P, He, L, Z, ow, fi, am, hl, e⟩ => ?_
  obtain ⟨Z1, ow1, fi1, hz⟩ := fi.freeze (l := occS s)
  have e := EndS.base (o := exS C Wb (.for_ t s b') lk δ B) e (Z1 := Z1) hz .refl
  have e : EndS p W P He L Z1 H D (ofRes (evS C true s (freeze δ (occS s)) B) fun l B => forGo (fun d δ B => match asgTg t ⟨d, .S⟩ δ with
        | some δ => exL C Wb b' (lockOf s ++ lk) δ B
        | none => .st) l (freeze δ (occS s)) B) := e
  rw [hlk] at e
  generalize freeze δ (occS s) = δ1 at fi1 e
  refine ⟨δ1, B, Z1, H, fi1.pre am, (post_of (r := evS C true s δ1 B) fi1.ext e).mono fun ds B1 H1 e1 a1 h1 J fs wlk sh => ?_⟩
  have hso : srcOk s δ1 = true := by cases s <;> first | rfl | exact absurd rfl (hs _)
  have sh := sh rfl hso
  have f1 := fi1.up e1
  have f2 : FI p P He L (fun b => Z1 b ∨ b ∈ fs) ow1 δ1 σ H1 := f1.share _ fun b hb => by
    rcases sh b hb with z | z
    · exact ⟨(f1.zp b z).1, wlk.th b hb, fun j hj => (f1.own j b hj).1 z⟩
    · exact ⟨.inr (fi1.frs z).2.1, wlk.th b hb, (fi1.frs z).2.2.1⟩
  have h1 := EndS.base (o := forGo _ ds δ1 B1) h1 (Z1 := fun b => Z1 b ∨ b ∈ fs) (fun b z => .inl z) .refl
  exact for_turns hK f2 a1 hl (fun _ z => z) .refl wlk (fun b hb => .inl (.inr hb)) (fun b hb _ => .inr hb) h1
/-- over a name's own list or tuple -/
theorem s_forv {tg iter : Expr} {b : List Stmt} {t : Tg} {i : Nat} {b' : SL} {pos : Pos} (hK : p.K = X.K) (hi : PI X tg iter (iSq X.K (tVar i))) (hb : PSs X b (rdSL p C W Wb b' (i :: lk)))
    (pf : ∀ wi tb, PI X tg iter wi → PSs X b tb → PS X (.For tg iter b [] pos) (tFor wi (gT X.K t) tb)) : PS X (.For tg iter b [] pos) (rdS p C W Wb (.for_ t (.v i) b') lk) := by
  refine (pf _ _ hi hb).weak fun D σ H ⟨δ, B, P, He, L, Z, ow, fi, am, hl, e⟩ => ?_
  obtain ⟨Z1, ow1, fi1, hz⟩ := fi.freeze (l := occS (.v i))
  have e := EndS.base (o := exS C Wb (.for_ t (.v i) b') lk δ B) e (Z1 := Z1) hz .refl
  have e : EndS p W P He L Z1 H D (ofRes (match slot (freeze δ (occS (.v i))) i with
    | some x => opt (itemsW x) B
    | none => .st) fun l B => forGo (fun d δ B => match asgTg t ⟨d, .S⟩ δ with
        | some δ => exL C Wb b' (i :: lk) δ B
        | none => .st) l (freeze δ (occS (.v i))) B) := e
  generalize freeze δ (occS (.v i)) = δ1 at fi1 e
  cases q : δ1.get i with
  | none =>
    have q2 : slot δ1 i = none := by unfold slot; rw [q]
    rw [q2] at e
    exact e.elim
  | some md =>
    obtain ⟨m, d⟩ := md
    have q2 := slot_get q
    rw [q2] at e
    dsimp only at e
    obtain ⟨v, fp, h1, h2, h3⟩ := fi1.at_ i m d q
    cases qi : itemsW ⟨d, flOf m d⟩ with
    | none => rw [qi] at e; exact e.elim
    | some ds =>
      rw [qi] at e
      have e : EndS p W P He L Z1 H D (forGo _ ds δ1 B) := e
      refine ⟨v, h1, ?_⟩
      have there : ∀ b ∈ fp, H b ≠ none := fun b hb z => by
        obtain ⟨us, q, _⟩ := h2.there b hb
        rw [q] at z; cases z
      cases d with
      | str z =>
        cases h2.str_
        cases qi
        exact .inr ⟨z, rfl, for_turns (L := L) (L' := L) hK fi1 am (fun e he => List.mem_cons_of_mem _ (hl e he)) (fun _ z => z) .refl (wlk_str (p := p) (Z := Z1) (H0 := H) z) (fun b hb => absurd hb (by simp)) (fun b hb _ => absurd hb (by simp)) e⟩
      | tup l =>
        have hl2 : l = ds ∧ ∀ b ∈ fp, Z1 b := by
          by_cases hf : Wh.D.flatL l = true
          · have e0 : fp = [] := h2.flat (by simpa [Wh.D.flat] using hf)
            have qi : (if Wh.D.flatL l then some l else _) = some ds := qi
            rw [if_pos hf] at qi
            exact ⟨Option.some.inj qi, fun b hb => by rw [e0] at hb; cases hb⟩
          · have hf2 : (Wh.D.tup l).flat = false := by simpa [Wh.D.flat] using hf
            simp only [itemsW, itemsR, flOf, hf, hf2, Bool.false_eq_true, if_false] at qi
            cases m with
            | S => exact ⟨Option.some.inj qi, h3⟩
            | R => cases qi
            | D => cases qi
        obtain ⟨rfl, hz1⟩ := hl2
        obtain ⟨a, vs, rfl, sq⟩ := h2.sq_tup
        have w := wlk_tup (p := p) (Z := Z1) (H0 := H) sq (fun b hb => .inl (hz1 b hb))
        have s1 := sq.sqT (.refl _)
        rw [hK] at w s1
        refine .inl ⟨a, rfl, .inr ⟨vs, s1, ?_⟩⟩
        exact for_turns (L := L) (L' := L) hK fi1 am (fun e he => List.mem_cons_of_mem _ (hl e he)) (fun _ z => z) .refl w (fun b hb => .inl (hz1 b hb)) (fun b hb _ => hz1 b hb) e
      | lst l =>
        obtain ⟨a, vs, g, rfl, rfl, sq⟩ := h2.sq_lst
        have hl2 : l = ds ∧ (∀ b ∈ g, Z1 b) ∧ (Z1 a ∨ a ∈ ow1 i) := by
          have own : Z1 a ∨ a ∈ ow1 i := by
            cases m with
            | S => exact .inl (h3 a List.mem_cons_self)
            | R =>
              obtain ⟨c, r, e0, e4, _⟩ := h3
              cases e0
              exact .inr (by rw [e4]; exact List.mem_cons_self)
            | D =>
              have h3 : ow1 i = a :: g := h3
              exact .inr (by rw [h3]; exact List.mem_cons_self)
          by_cases hf : Wh.D.flatL l = true
          · have e0 : g = [] := sq.items.flat hf
            have qi : (if Wh.D.flatL l then some l else _) = some ds := qi
            rw [if_pos hf] at qi
            exact ⟨Option.some.inj qi, fun b hb => (by rw [e0] at hb; cases hb), own⟩
          · simp only [itemsW, itemsR, flOf, hf, Wh.D.flat, Bool.false_eq_true, if_false] at qi
            cases m with
            | S => exact ⟨Option.some.inj qi, fun b hb => h3 b (List.mem_cons_of_mem _ hb), own⟩
            | R =>
              obtain ⟨c, r, e0, e4, h6⟩ := h3
              cases e0
              exact ⟨Option.some.inj qi, h6, own⟩
            | D => cases qi
        obtain ⟨rfl, hg, own⟩ := hl2
        have w := wlk_list (p := p) (K := X.K) (Z := Z1) (H0 := H) sq (fun b hb => .inl (hg b hb))
        refine .inl ⟨a, rfl, .inl ⟨vs, sq.sqL (.refl _), ?_⟩⟩
        have fi2 : FI p P He ((i, a) :: L) Z1 ow1 δ1 σ H := ⟨fi1.ext, fi1.gc, fi1.len, fi1.nd, fi1.own, fi1.one, fun e he j hj => by
          rcases List.mem_cons.mp he with z | z
          · subst z
            rcases own with y | y
            · exact absurd y (fi1.own j a hj).1
            · exact fi1.one j i a hj y
          · exact fi1.lk e z j hj, fi1.at_, fi1.zp, fun e he => by
          rcases List.mem_cons.mp he with z | z
          · subst z; exact there a List.mem_cons_self
          · exact fi1.lth e z⟩
        -- the items' lists are shared; the root is not among them
        refine for_turns (L := L) (L' := (i, a) :: L) (Z0 := Z1) (H0 := H) (fs := a :: g) hK fi2 am (fun e he => ?_) (fun e he => List.mem_cons_of_mem _ he) .refl w (fun b hb => ?_) (fun b hb hh => ?_) e
        · rcases List.mem_cons.mp he with z | z
          · rw [z]; exact List.mem_cons_self
          · exact List.mem_cons_of_mem _ (hl e z)
        · rcases List.mem_cons.mp hb with z | z
          · exact .inr ⟨(i, a), List.mem_cons_self, z.symm⟩
          · exact .inl (hg b z)
        · rcases hh with z | z
          · exact z
          · exact absurd z (there b hb)
      | _ => cases qi
end
end Wh

set_option maxHeartbeats 4000000
/-! Wh, part V: append, extend. -/
namespace Wh
open PySem PySem.Spec PyProof.Rows L2

section
variable {p : Pl} {P : Addr → Prop} {He : Hp} {L : List (Nat × Addr)} {Z : Addr → Prop} {ow : Nat → List Addr} {δ : Env} {σ : L2.St} {H H' : Hp}
/-- a name forgotten -/
theorem FI.drop (h : FI p P He L Z ow δ σ H) (i : Nat) : FI p P He L Z (owp ow i []) (δ.wipe [i]) σ H := by
  refine ⟨h.ext, h.gc, by rw [wipe_len]; exact h.len, fun j => ?_, fun j b hb => ?_, fun j k b hb hc => ?_, fun e he j hb => ?_, fun j m' d' q' => ?_, h.zp, h.lth⟩
  · by_cases e : j = i
    · subst e; rw [owp_at]; exact List.nodup_nil
    · rw [owp_ne e]; exact h.nd j
  · by_cases e : j = i
    · subst e; rw [owp_at] at hb; cases hb
    · rw [owp_ne e] at hb; exact h.own j b hb
  · by_cases e : j = i
    · rw [e, owp_at] at hb; cases hb
    · by_cases f : k = i
      · rw [f, owp_at] at hc; cases hc
      · rw [owp_ne e] at hb; rw [owp_ne f] at hc; exact h.one j k b hb hc
  · by_cases f : j = i
    · rw [f, owp_at] at hb; cases hb
    · rw [owp_ne f] at hb; exact h.lk e he j hb
  · obtain ⟨q1, q2⟩ := get_wipe q'
    have ne : j ≠ i := fun z => q2 (by rw [z]; exact List.mem_cons_self)
    obtain ⟨w, f2, h5, h6, h7⟩ := h.at_ j m' d' q1
    rw [owp_ne ne]
    exact ⟨w, f2, h5, h6, h7⟩
theorem Rf.poke {H : Hp} {r : Addr} {us ws : List V} {v : V} {d : D} {fp : List Addr} (h : Rf p H v d fp) (hr : H r = some (.lst us)) (hn : r ∉ fp) : Rf p (upd H r (.lst ws)) v d fp :=
  h.keep ⟨.but hr (fun a n => upd_ne n), fun a ha vs q _ n => (by rw [upd_ne fun z => hn (by rw [← z]; exact ha)]; exact q)⟩
theorem RfL.poke {H : Hp} {r : Addr} {us ws : List V} {v : List V} {d : List D} {fp : List Addr} (h : RfL p H v d fp) (hr : H r = some (.lst us)) (hn : r ∉ fp) : RfL p (upd H r (.lst ws)) v d fp :=
  h.keep ⟨.but hr (fun a n => upd_ne n), fun a ha vs q _ n => (by rw [upd_ne fun z => hn (by rw [← z]; exact ha)]; exact q)⟩
/-- a list that no name has is changed -/
theorem FI.poke (h : FI p P He L Z ow δ σ H) {r : Addr} {us ws : List V} (hr : H r = some (.lst us)) (hf : Frs He L Z ow r) : FI p P He L Z ow δ σ (upd H r (.lst ws)) := by
  have up : ∀ b, H b ≠ none → upd H r (.lst ws) b ≠ none := fun b q => by
    by_cases e : b = r
    · rw [e, upd_same]; exact fun z => by cases z
    · rw [upd_ne e]; exact q
  refine ⟨h.ext.upd hf.2.1 _, h.gc, h.len, h.nd, fun j b hb => let q := h.own j b hb; ⟨q.1, q.2.1, up b q.2.2⟩, h.one, h.lk, fun j m d q => ?_, fun b hb => let q := h.zp b hb; ⟨q.1, up b q.2⟩, fun e he => up _ (h.lth e he)⟩
  obtain ⟨v, fp, h1, h2, h3⟩ := h.at_ j m d q
  have hn : r ∉ fp := by
    cases m with
    | S => exact fun z => hf.1 (h3 r z)
    | R =>
      obtain ⟨a, g, e0, e1, e2⟩ := h3
      intro z
      rw [e0] at z
      rcases List.mem_cons.mp z with z | z
      · exact hf.2.2.1 j (by rw [e1, z]; exact List.mem_cons_self)
      · exact hf.1 (e2 r z)
    | D =>
      have h3 : ow j = fp := h3
      exact fun z => hf.2.2.1 j (by rw [h3]; exact z)
  exact ⟨v, fp, h1, h2.poke hr hn, h3⟩
theorem set_same {σ : L2.St} {i : Nat} {v : V} (h : σ[i]? = some (some v)) : σ.set i (some v) = σ := by
  apply List.ext_getElem?
  intro j
  by_cases e : i = j
  · subst e
    have hl : i < σ.length := (List.getElem?_eq_some_iff.mp h).1
    rw [List.getElem?_set_self hl, h]
  · rw [List.getElem?_set_ne e]
theorem put_wipe (δ : Env) (i : Nat) (m : Md) (d : D) : (δ.wipe [i]).put i m d = δ.put i m d := by
  show ((δ.set i none).set i _) = δ.set i _
  rw [List.set_set]
theorem owp_owp (ow : Nat → List Addr) (i : Nat) (l l' : List Addr) : owp (owp ow i l) i l' = owp ow i l' := by funext j; by_cases e : j = i <;> simp [owp, e]
theorem Kp.poke {S : Addr → Prop} {r : Addr} {us ws : List V} (hr : H r = some (.lst us)) (hn : ¬ S r) : Kp p H (upd H r (.lst ws)) S := ⟨.but hr (fun a n => upd_ne n), fun a ha vs q _ n => (by rw [upd_ne fun z => hn (by rw [← z]; exact ha)]; exact q)⟩
/-- a name's own list is changed at r -/
theorem FI.change (h : FI p P He L Z ow δ σ H) {x : Nat} {v : V} (hx : σ[x]? = some (some v)) (hL : ∀ e ∈ L, e.1 ≠ x) {r : Addr} {us ws : List V} (hr : H r = some (.lst us)) (ho : r ∈ ow x) {m : Md} {d : D} {fp o : List Addr} {S : Addr → Prop}
    (rf : Rf p (upd H r (.lst ws)) v d fp) (hS : ∀ b, S b → (P b ∨ He b = none) ∧ H b ≠ none ∧ (∀ j, j ≠ x → b ∉ ow j) ∧ b ≠ r) (hz : ∀ b ∈ o, ¬ Z b ∧ ¬ S b ∧ He b = none ∧ (∀ j, j ≠ x → b ∉ ow j) ∧ (∀ e ∈ L, e.2 ≠ b) ∧ H b ≠ none) (hn : o.Nodup) (hm : match m with
    | .S => o = [] ∧ ∀ b ∈ fp, Z b ∨ S b
    | .R => ∃ a q, fp = a :: q ∧ o = [a] ∧ ∀ b ∈ q, Z b ∨ S b
    | .D => o = fp) :
    FI p P He L (fun b => Z b ∨ S b) (owp ow x o) (δ.put x m d) σ (upd H r (.lst ws)) ∧ Kp p H (upd H r (.lst ws)) (SLk Z L) := by
  have own := h.own x r ho
  have hLr : ∀ e ∈ L, e.2 ≠ r := fun e he z => hL e he ((h.lk e he x (z ▸ ho)).symm)
  have frs : Frs He L Z (owp ow x []) r := ⟨own.1, own.2.1, fun j hj => by
    by_cases e : j = x
    · rw [e, owp_at] at hj; cases hj
    · rw [owp_ne e] at hj; exact e (h.one j x r hj ho), hLr⟩
  have h1 := (h.drop x).poke (ws := ws) hr frs
  have up : ∀ b, H b ≠ none → upd H r (.lst ws) b ≠ none := fun b q => by
    by_cases e : b = r
    · rw [e, upd_same]; exact fun z => by cases z
    · rw [upd_ne e]; exact q
  have h2 := h1.share S fun b hb => ⟨(hS b hb).1, up b (hS b hb).2.1, fun j hj => by
    by_cases e : j = x
    · rw [e, owp_at] at hj; cases hj
    · rw [owp_ne e] at hj; exact (hS b hb).2.2.1 j e hj⟩
  have h3 := h2.put (i := x) (m := m) rf (o := o) (fun b hb => ⟨fun z => z.elim (hz b hb).1 (hz b hb).2.1, (hz b hb).2.2.1, fun j e hj => by rw [owp_ne e] at hj; exact (hz b hb).2.2.2.1 j e hj, (hz b hb).2.2.2.2.1⟩) (fun b hb => up b (hz b hb).2.2.2.2.2) hn hm
  rw [set_same hx, put_wipe, owp_owp] at h3
  exact ⟨h3, .poke hr fun z => z.elim own.1 fun ⟨e, he, q⟩ => hLr e he q⟩
theorem FI.gcne (h : FI p P He L Z ow δ σ H) {r : Addr} {x : Nat} (ho : r ∈ ow x) : r ≠ p.gc := fun z => h.gc (z ▸ (h.own x r ho).2.1)
/-- an item more -/
theorem FI.append (h : FI p P He L Z ow δ σ H) {H1 : Hp} (e1 : Ext p.g H H1) {x : Nat} {md md' : Md} {l : List D} {a : RV} {y : V} (q : δ.get x = some (md, .lst l)) (hL : ∀ e ∈ L, e.1 ≠ x) (hv : VR p Z H H a y H1) (hm : mdAdd md a = some md') :
    ∃ r vs, σ[x]? = some (some (.ref r)) ∧ H1 r = some (.lst vs) ∧ vs.length = l.length ∧ r ≠ p.g ∧ r ≠ p.gc ∧ ∃ Z' ow', FI p P He L Z' ow' (δ.put x md' (.lst (l ++ [a.d]))) σ (upd H1 r (.lst (vs ++ [y]))) ∧ (∀ b, Z b → Z' b) ∧ Kp p H1 (upd H1 r (.lst (vs ++ [y]))) (SLk Z L) := by
  obtain ⟨v, fp, h1, h2, h3⟩ := h.at_ x md _ q
  obtain ⟨fa, k1, k2⟩ := hv
  obtain ⟨r, vs, g, rfl, hr, hg, rfl, rl⟩ := h2.lst_
  have hr1 : H1 r = some (.lst vs) := e1.at hr hg (fun _ z => by cases z)
  have f1 := h.up e1
  have rthere : H r ≠ none := by rw [hr]; exact fun z => by cases z
  have hro : r ∈ ow x := by
    cases md with
    | S => unfold mdAdd at hm; cases hm
    | R =>
      obtain ⟨c, q', e0, e2, _⟩ := h3
      cases e0
      rw [e2]; exact List.mem_cons_self
    | D =>
      have h3 : ow x = r :: g := h3
      rw [h3]; exact List.mem_cons_self
  have own := h.own x r hro
  refine ⟨r, vs, h1, hr1, rl.length, hg, h.gcne hro, ?_⟩
  -- what the item's lists are
  have thereA : ∀ b ∈ fa, H1 b ≠ none := fun b hb z => by
    obtain ⟨us, q, _⟩ := k1.there b hb
    rw [q] at z; cases z
  have newRf : r ∉ g → r ∉ fa → Rf p (upd H1 r (.lst (vs ++ [y]))) (.ref r) (.lst (l ++ [a.d])) (r :: (g ++ fa)) := fun n1 n2 => by
    have t : RfL p (upd H1 r (.lst (vs ++ [y]))) [y] [a.d] fa := by
      have := RfL.cons (k1.poke (ws := vs ++ [y]) hr1 n2) .nil
      rwa [List.append_nil] at this
    exact .lst upd_same hg (((rl.ext e1).poke hr1 n1).append t)
  have shA : a.f.lent = false → ∀ b ∈ fa, (Z b ∨ H b = none) := fun hl => Hd.all k2 hl
  have shOk : a.f.lent = false → ∀ b ∈ fa, (P b ∨ He b = none) ∧ H1 b ≠ none ∧ (∀ j, j ≠ x → b ∉ ow j) ∧ b ≠ r := fun hl b hb => by
    rcases shA hl b hb with z | z
    · exact ⟨(h.zp b z).1, thereA b hb, fun j _ hj => (h.own j b hj).1 z, fun e => own.1 (e ▸ z)⟩
    · exact ⟨.inr (h.frs z).2.1, thereA b hb, fun j _ => (h.frs z).2.2.1 j, fun e => rthere (e ▸ z)⟩
  -- one name owns the root alone
  have asR : (∀ b ∈ g, Z b ∨ (b ∈ ow x ∧ b ≠ r)) → a.f.lent = false → ∃ Z' ow', FI p P He L Z' ow' (δ.put x .R (.lst (l ++ [a.d]))) σ (upd H1 r (.lst (vs ++ [y]))) ∧ (∀ b, Z b → Z' b) ∧ Kp p H1 (upd H1 r (.lst (vs ++ [y]))) (SLk Z L) := fun hgz hl => by
    have n1 : r ∉ g := fun z => (hgz r z).elim own.1 fun w => w.2 rfl
    have n2 : r ∉ fa := fun z => (shOk hl r z).2.2.2 rfl
    have thereG : ∀ b ∈ g, H1 b ≠ none := fun b hb z => by
      obtain ⟨us, q, _⟩ := rl.there b hb
      exact absurd (e1.free z) (by rw [q]; exact fun z => by cases z)
    obtain ⟨w1, w2⟩ := f1.change (S := fun b => b ∈ fa ∨ (b ∈ ow x ∧ b ≠ r)) (m := .R) (o := [r]) h1 hL hr1 hro (newRf n1 n2) (fun b hb => by
      rcases hb with hb | hb
      · exact shOk hl b hb
      · have o := f1.own x b hb.1
        exact ⟨.inr o.2.1, o.2.2, fun j e hj => e (h.one j x b hj hb.1), hb.2⟩) (fun b hb => by
      have e := List.mem_singleton.mp hb
      subst e
      exact ⟨own.1, fun z => z.elim n2 fun w => w.2 rfl, own.2.1, fun j e hj => e (h.one j x b hj hro), fun e he z => hL e he ((h.lk e he x (z ▸ hro)).symm), (f1.own x b hro).2.2⟩) (by simp) ⟨r, g ++ fa, rfl, rfl, fun b hb => by
      rcases List.mem_append.mp hb with z | z
      · exact (hgz b z).elim .inl fun w => .inr (.inr w)
      · exact .inr (.inl z)⟩
    exact ⟨_, _, w1, fun b z => .inl z, w2⟩
  obtain ⟨ad, af⟩ := a
  cases md with
  | S => cases hm
  | R =>
    obtain ⟨c, q', e0, e2, e3⟩ := h3
    cases e0
    cases af with
    | D => cases hm; exact asR (fun b hb => .inl (e3 b hb)) rfl
    | R => cases hm; exact asR (fun b hb => .inl (e3 b hb)) rfl
    | S => cases hm; exact asR (fun b hb => .inl (e3 b hb)) rfl
    | BR => cases hm
    | BD => cases hm
  | D =>
    have h3 : ow x = r :: g := h3
    have nd := h.nd x
    rw [h3] at nd
    obtain ⟨n1, n2⟩ := List.nodup_cons.mp nd
    have gow : ∀ b ∈ g, Z b ∨ (b ∈ ow x ∧ b ≠ r) := fun b hb => .inr ⟨by rw [h3]; exact List.mem_cons_of_mem _ hb, fun z => n1 (z ▸ hb)⟩
    cases af with
    | D =>
      cases hm
      have n3 : r ∉ fa := fun z => rthere (k2.2 r z)
      have gH : ∀ b ∈ g, b ∈ ow x := fun b hb => by rw [h3]; exact List.mem_cons_of_mem _ hb
      obtain ⟨w1, w2⟩ := f1.change (S := fun _ => False) (m := .D) (o := r :: (g ++ fa)) h1 hL hr1 hro (newRf n1 n3) (fun b hb => hb.elim) (fun b hb => by
        have old : b ∈ ow x → ¬ Z b ∧ ¬ False ∧ He b = none ∧ (∀ j, j ≠ x → b ∉ ow j) ∧ (∀ e ∈ L, e.2 ≠ b) ∧ H1 b ≠ none := fun ob =>
          ⟨(f1.own x b ob).1, fun z => z, (f1.own x b ob).2.1, fun j e hj => e (h.one j x b hj ob), fun e he z => hL e he ((h.lk e he x (z ▸ ob)).symm), (f1.own x b ob).2.2⟩
        rcases List.mem_cons.mp hb with z | z
        · exact old (z ▸ hro)
        · rcases List.mem_append.mp z with z | z
          · exact old (gH b z)
          · have q := h.frs (k2.2 b z)
            exact ⟨q.1, fun z => z, q.2.1, fun j _ => q.2.2.1 j, q.2.2.2, thereA b z⟩) (by
        refine List.nodup_cons.mpr ⟨fun z => (List.mem_append.mp z).elim n1 n3, List.nodup_append.mpr ⟨n2, k2.1, fun b hb c hc e => ?_⟩⟩
        subst e
        exact (h.own x b (gH b hb)).2.2 (k2.2 b hc)) rfl
      exact ⟨_, _, w1, fun b z => .inl z, w2⟩
    | R => cases hm; exact asR gow rfl
    | S => cases hm; exact asR gow rfl
    | BR => cases hm
    | BD => cases hm
end
section
variable {X : Cx} {p : Pl} {C : Cs} {W : WX} {Wb : Nat} {lk : List Nat}
def mutO (C : Cs) (m : Mu) (x : Nat) (path args : EL) (δ : Env) (B : Bag) : Out := match δ.get x with
      | some (md, .lst l) => ofRes (evL C path δ B) fun ps B => if mutP l ps then ofRes (evL C args δ B) fun as B => match mutF m md (.lst l) ps as with
          | some (md', d') => .nx (δ.put x md' d') B
          | none => .st
        else .st
      | _ => .st
theorem exS_mut {m : Mu} {x : Nat} {path args : EL} {δ : Env} {B : Bag} {P : Addr → Prop} {He : Hp} {L : List (Nat × Addr)} {Z : Addr → Prop} {H : Hp} {D : Ends} (e : EndS p W P He L Z H D (exS C Wb (.mut m x path args) lk δ B)) (hl : ∀ e ∈ L, e.1 ∈ lk) :
    (∀ e ∈ L, e.1 ≠ x) ∧ EndS p W P He L Z H D (mutO C m x path args (freeze δ (occL args 2)) B) := by
  have e : EndS p W P He L Z H D (if lk.contains x then .st else mutO C m x path args (freeze δ (occL args 2)) B) := e
  split at e
  · exact e.elim
  · rename_i c
    refine ⟨fun e0 he z => c ?_, e⟩
    rw [List.contains_iff_mem]
    exact z ▸ hl e0 he
/-- x.append(e) -/
theorem s_append {o e : Expr} {x : Nat} {e' : E} {apos cpos pos : Pos} (ho : PE X o (tVar x)) (ha : PA X [e] (rdL p C W (.cons e' .nil))) (pe : ∀ to t, PE X o to → PA X [e] t → PE X (.Call (.Attribute o "append" apos) [e] [] cpos) (tBM X.K "list" rAppend to t)) (hs : swapsWith (.Call (.Attribute o "append" apos) [e] [] cpos) none pos.line X.env = pure false) :
    PS X (.Expr (.Call (.Attribute o "append" apos) [e] [] cpos) pos) (rdS p C W Wb (.mut .append x .nil (.cons e' .nil)) lk) := by
  refine (ps_expr (pe _ _ ho ha) hs).weak fun D σ H ⟨δ, B, P, He, L, Z, ow, fi, am, hl, e⟩ => ?_
  obtain ⟨hL, e⟩ := exS_mut e hl
  obtain ⟨Z1, ow1, fi1, hz⟩ := fi.freeze (l := occL (.cons e' .nil) 2)
  have e := EndS.base e (Z1 := Z1) hz .refl
  generalize freeze δ (occL (.cons e' .nil) 2) = δ1 at fi1 e
  unfold mutO at e
  split at e
  · rename_i md l q
    have e : EndS p W P He L Z1 H D (ofRes (evL C (.cons e' .nil) δ1 B) fun as B => match mutF .append md (.lst l) [] as with
          | some (md', d') => .nx (δ1.put x md' d') B
          | none => .st) := e
    obtain ⟨v, fp, h1, h2, h3⟩ := fi1.at_ x md _ q
    obtain ⟨r, vs, g, rfl, hr, hg, rfl, rl⟩ := h2.lst_
    refine ⟨.ref r, h1, .inl ⟨rfl, vs, SqL.of hr⟩, rdL_len (fi1.pre am) (post_of (r := evL C (.cons e' .nil) δ1 B) fi1.ext e) fun rs B1 H1 e1 a1 hl1 k1 ys hl2 hvs => ?_⟩
    obtain ⟨a, rfl⟩ := one_of hl1
    obtain ⟨y, rfl⟩ := one_of hl2
    obtain ⟨hv, _⟩ := hvs.each (.refl _ _)
    have hm : mutF .append md (.lst l) [] [a] = if l.length < 1000000 then (match mdAdd md a with | some md' => some (md', .lst (l ++ [a.d])) | none => none) else none := rfl
    rw [hm] at k1
    split at k1
    · rename_i md' d' qq
      split at qq
      · rename_i hlen
        cases qm : mdAdd md a with
        | none => rw [qm] at qq; cases qq
        | some md2 =>
          rw [qm] at qq
          cases qq
          obtain ⟨r', vs', g1, g2, g3, g4, g5, Z', ow', g6, g7, g8⟩ := fi1.append e1 q hL hv qm
          rw [h1] at g1
          cases g1
          exact ⟨r, vs', y, rfl, rfl, g2, by rw [g3, sizeLine_eq]; omega, k1 σ _ Z' ow' g6 (a1.upd g2 g4 g5) g7 g8⟩
      · cases qq
    · exact k1.elim
  · exact e.elim
/-- an item's own list is changed -/
theorem RfL.inner {H : Hp} {r : Addr} {us : List V} {m : List Wh.D} {a : Wh.D} {y : V} (hr : H r = some (.lst us)) (ha : a.flat = true) : ∀ {vs : List V} {ds : List Wh.D} {fp : List Addr} {j : Nat}, RfL p H vs ds fp → fp.Nodup → vs[j]? = some (.ref r) → ds[j]? = some (.lst m) → Rf p H y a [] →
    r ∈ fp ∧ RfL p (upd H r (.lst (us ++ [y]))) vs (ds.set j (.lst (m ++ [a]))) fp
  | _, _, _, _, .nil, _, e, _, _ => by simp at e
  | _, _, _, 0, .cons (f1 := f1) (f2 := f2) h t, nd, e1, e2, hy => by
    simp only [List.getElem?_cons_zero, Option.some.injEq] at e1 e2
    subst e1 e2
    obtain ⟨r', us', g, ee, hr', hg, rfl, rl⟩ := h.lst_
    cases ee
    rw [hr] at hr'
    cases hr'
    have nd' := List.nodup_append.mp nd
    have n1 := List.nodup_cons.mp nd'.1
    have n2 : r ∉ f2 := fun z => nd'.2.2 r List.mem_cons_self r z rfl
    refine ⟨List.mem_append_left _ List.mem_cons_self, .cons (.lst upd_same hg ?_) (t.poke hr n2)⟩
    have t1 : RfL p (upd H r (.lst (us ++ [y]))) [y] [a] [] := .cons (hy.poke hr (by simp)) .nil
    have := (rl.poke (ws := us ++ [y]) hr n1.1).append t1
    rwa [List.append_nil] at this
  | _, _, _, j + 1, .cons (f1 := f1) (f2 := f2) h t, nd, e1, e2, hy => by
    simp only [List.getElem?_cons_succ] at e1 e2
    have nd' := List.nodup_append.mp nd
    obtain ⟨i1, i2⟩ := RfL.inner hr ha t nd'.2.1 e1 e2 hy
    have n1 : r ∉ f1 := fun z => nd'.2.2 r z r i1 rfl
    exact ⟨List.mem_append_right _ i1, .cons (h.poke hr n1) i2⟩
theorem atI_ix {α : Type} {l : List α} {k : Int} {j : Nat} (h : L2.ixN l.length k = some j) : L2.atI l k = l[j]? := by
  unfold L2.atI
  rw [h]
  rfl
/-- x[i].append(e) -/
theorem s_append1 {o e i : Expr} {x : Nat} {i' e' : E} {apos cpos pos pos2 : Pos} (hi : PE X i (rdE p C W i')) (ho : ∀ ti, PE X i ti → PE X (.Subscript o i pos2) (tOp (rIxL X.K) (tVar x) ti)) (ha : PA X [e] (rdL p C W (.cons e' .nil)))
    (pe : ∀ to t, PE X (.Subscript o i pos2) to → PA X [e] t → PE X (.Call (.Attribute (.Subscript o i pos2) "append" apos) [e] [] cpos) (tBM X.K "list" rAppend to t)) (hs : swapsWith (.Call (.Attribute (.Subscript o i pos2) "append" apos) [e] [] cpos) none pos.line X.env = pure false) :
    PS X (.Expr (.Call (.Attribute (.Subscript o i pos2) "append" apos) [e] [] cpos) pos) (rdS p C W Wb (.mut .append x (.cons i' .nil) (.cons e' .nil)) lk) := by
  refine (ps_expr (pe _ _ (ho _ hi) ha) hs).weak fun D σ H ⟨δ, B, P, He, L, Z, ow, fi, am, hl, e⟩ => ?_
  obtain ⟨hL, e⟩ := exS_mut e hl
  obtain ⟨Z1, ow1, fi1, hz⟩ := fi.freeze (l := occL (.cons e' .nil) 2)
  have e := EndS.base e (Z1 := Z1) hz .refl
  generalize freeze δ (occL (.cons e' .nil) 2) = δ1 at fi1 e
  unfold mutO at e
  split at e
  · rename_i md l q
    obtain ⟨v, fp, h1, h2, h3⟩ := fi1.at_ x md _ q
    obtain ⟨r, vs, g, rfl, hr, hg, rfl, rl⟩ := h2.lst_
    refine ⟨.ref r, h1, ?_⟩
    have e : EndS p W P He L Z1 H D (ofRes ((ev C i' false δ1 B).bind fun x B => (Res.ok [] B).bind fun xs B => .ok (x :: xs) B) fun ps B => if mutP l ps then ofRes (evL C (.cons e' .nil) δ1 B) fun as B => match mutF .append md (.lst l) ps as with
          | some (md', d') => .nx (δ1.put x md' d') B
          | none => .st
        else .st) := e
    refine rdX_use (fi1.pre am) (PostG.bind (post_of (r := (ev C i' false δ1 B).bind fun x B => (Res.ok [] B).bind fun xs B => .ok (x :: xs) B) fi1.ext e)) fun ri B1 H1 e1 a1 k1 w hw => ?_
    have k1 := k1 H1 (.refl _ _) a1
    dsimp only at k1
    obtain ⟨fi0, rfi⟩ := hw.rf
    obtain ⟨rd, rf0⟩ := ri
    -- where the path leads
    split at k1
    · rename_i hp
      cases rd with
      | int k =>
        cases rfi.int_
        have hp : (match L2.ixN l.length k with
          | some j => match l[j]? with
            | some (.lst _) => true
            | _ => false
          | none => false) = true := hp
        cases qj : L2.ixN l.length k with
        | none => rw [qj] at hp; cases hp
        | some j =>
          rw [qj] at hp
          dsimp only at hp
          split at hp
          · rename_i m qm
            obtain ⟨v2, f2, i1, i2, i3⟩ := (rl.ext e1).get qm
            obtain ⟨r2, us, g2, rfl, hr2, hg2, rfl, rl2⟩ := i2.lst_
            have hr1 : H1 r = some (.lst vs) := e1.at hr hg (fun _ z => by cases z)
            refine ⟨r, vs, k, .ref r2, rfl, rfl, SqL.of hr1, ?_, ?_⟩
            · rw [atI_ix (by rw [rl.length]; exact qj)]; exact i1
            refine ⟨.inl ⟨rfl, us, SqL.of hr2⟩, ?_⟩
            have f1 := fi1.up e1
            refine rdL_len (f1.pre a1) (post_of (r := evL C (.cons e' .nil) δ1 B1) f1.ext k1) fun rs B2 H2 e2 a2 hl1 k2 ys hl2 hvs => ?_
            obtain ⟨a, rfl⟩ := one_of hl1
            obtain ⟨y, rfl⟩ := one_of hl2
            obtain ⟨hv, _⟩ := hvs.each (.refl _ _)
            have hm : mutF .append md (.lst l) [⟨.int k, rf0⟩] [a] = (match md with
              | .D => (match L2.ixN l.length k with
                | some j => (match l[j]? with
                  | some (.lst m) => if m.length < 1000000 ∧ a.d.flat then some (.D, .lst (l.set j (.lst (m ++ [a.d])))) else none
                  | _ => none)
                | none => none)
              | _ => none) := by cases md <;> rfl
            rw [hm] at k2
            cases md with
            | S => exact k2.elim
            | R => exact k2.elim
            | D =>
              rw [qj] at k2
              dsimp only at k2
              rw [qm] at k2
              dsimp only at k2
              by_cases hc : m.length < 1000000 ∧ a.d.flat = true
              · rw [if_pos hc] at k2
                have h3 : ow1 x = r :: g := h3
                have nd := fi1.nd x
                rw [h3] at nd
                have nd2 := (List.nodup_cons.mp nd).2
                have n1 := (List.nodup_cons.mp nd).1
                have hr3 : H2 r2 = some (.lst us) := e2.at hr2 hg2 (fun _ z => by cases z)
                obtain ⟨fa, ka, kb⟩ := hv
                have ef : fa = [] := ka.flat hc.2
                subst ef
                obtain ⟨j1, j2⟩ := RfL.inner (a := a.d) (y := y) hr3 hc.2 ((rl.ext e1).ext e2) nd2 i1 qm ka
                have ne : r ≠ r2 := fun z => n1 (z ▸ j1)
                have f2' := f1.up e2
                have hr4 : upd H2 r2 (.lst (us ++ [y])) r = some (.lst vs) := by rw [upd_ne ne]; exact e2.at hr1 hg (fun _ z => by cases z)
                have ho2 : r2 ∈ ow1 x := by rw [h3]; exact List.mem_cons_of_mem _ j1
                obtain ⟨w1, w2⟩ := f2'.change (S := fun _ => False) (m := .D) (d := .lst (l.set j (.lst (m ++ [a.d])))) (o := r :: g) h1 hL hr3 ho2 (.lst hr4 hg j2) (fun b hb => hb.elim) (fun b hb => by
                  have ob : b ∈ ow1 x := by rw [h3]; exact hb
                  exact ⟨(f2'.own x b ob).1, fun z => z, (f2'.own x b ob).2.1, fun j e hj => e (f2'.one j x b hj ob), fun e he z => hL e he ((f2'.lk e he x (z ▸ ob)).symm), (f2'.own x b ob).2.2⟩) nd rfl
                exact ⟨r2, us, y, rfl, rfl, hr3, by have := rl2.length; rw [sizeLine_eq]; omega, k2 σ _ _ _ w1 (a2.upd hr3 hg2 (fi1.gcne ho2)) (fun b z => .inl z) w2⟩
              · rw [if_neg hc] at k2; exact k2.elim
          · cases hp
      | _ => cases hp
    · exact k1.elim
  · exact e.elim
/-- x.extend(e): items without lists -/
theorem s_extend {o e : Expr} {x : Nat} {e' : E} {apos cpos pos : Pos} (ho : PE X o (tVar x)) (ha : PA X [e] (rdL p C W (.cons e' .nil))) (pe : ∀ to t, PE X o to → PA X [e] t → PE X (.Call (.Attribute o "extend" apos) [e] [] cpos) (tBM X.K "list" rExtend to t)) (hs : swapsWith (.Call (.Attribute o "extend" apos) [e] [] cpos) none pos.line X.env = pure false) :
    PS X (.Expr (.Call (.Attribute o "extend" apos) [e] [] cpos) pos) (rdS p C W Wb (.mut .extend x .nil (.cons e' .nil)) lk) := by
  refine (ps_expr (pe _ _ ho ha) hs).weak fun D σ H ⟨δ, B, P, He, L, Z, ow, fi, am, hl, e⟩ => ?_
  obtain ⟨hL, e⟩ := exS_mut e hl
  obtain ⟨Z1, ow1, fi1, hz⟩ := fi.freeze (l := occL (.cons e' .nil) 2)
  have e := EndS.base e (Z1 := Z1) hz .refl
  generalize freeze δ (occL (.cons e' .nil) 2) = δ1 at fi1 e
  unfold mutO at e
  split at e
  · rename_i md l q
    have e : EndS p W P He L Z1 H D (ofRes (evL C (.cons e' .nil) δ1 B) fun as B => match mutF .extend md (.lst l) [] as with
          | some (md', d') => .nx (δ1.put x md' d') B
          | none => .st) := e
    obtain ⟨v, fp, h1, h2, h3⟩ := fi1.at_ x md _ q
    obtain ⟨r, vs, g, rfl, hr, hg, rfl, rl⟩ := h2.lst_
    refine ⟨.ref r, h1, .inl ⟨rfl, vs, SqL.of hr⟩, rdL_len (fi1.pre am) (post_of (r := evL C (.cons e' .nil) δ1 B) fi1.ext e) fun rs B1 H1 e1 a1 hl1 k1 ys hl2 hvs => ?_⟩
    obtain ⟨a, rfl⟩ := one_of hl1
    obtain ⟨y, rfl⟩ := one_of hl2
    obtain ⟨hv, _⟩ := hvs.each (.refl _ _)
    obtain ⟨ad, af⟩ := a
    obtain ⟨fa, ka, kb⟩ := hv
    cases ad with
    | lst qs =>
      have hm : mutF .extend md (.lst l) [] [⟨.lst qs, af⟩] = if l.length + qs.length ≤ 1000000 ∧ Wh.D.flatL qs then (match md with | .S => none | _ => some (md, .lst (l ++ qs))) else none := rfl
      rw [hm] at k1
      by_cases hc : l.length + qs.length ≤ 1000000 ∧ Wh.D.flatL qs = true
      · rw [if_pos hc] at k1
        obtain ⟨r2, us, g2, rfl, hr2, hg2, rfl, rl2⟩ := ka.lst_
        have eg : g2 = [] := rl2.flat hc.2
        subst eg
        have f1 := fi1.up e1
        have hr1 : H1 r = some (.lst vs) := e1.at hr hg (fun _ z => by cases z)
        have fin : md ≠ .S → (k1' : EndS p W P He L Z1 H1 D (.nx (δ1.put x md (.lst (l ++ qs))) B1)) → ∃ l' b xs zs, V.ref r = .ref l' ∧ [V.ref r2] = [.ref b] ∧ H1 l' = some (.lst xs) ∧ H1 b = some (.lst zs) ∧ xs.length + zs.length ≤ sizeLine ∧ D.nx σ (upd H1 l' (.lst (xs ++ zs))) := fun hmd k1' => by
          have hro : r ∈ ow1 x := by
            cases md with
            | S => exact absurd rfl hmd
            | R =>
              obtain ⟨c, q', e0, e2, _⟩ := h3
              cases e0
              rw [e2]; exact List.mem_cons_self
            | D =>
              have h3 : ow1 x = r :: g := h3
              rw [h3]; exact List.mem_cons_self
          have own := f1.own x r hro
          have n1 : r ∉ g := by
            cases md with
            | S => exact absurd rfl hmd
            | R =>
              obtain ⟨c, q', e0, e2, e3⟩ := h3
              cases e0
              exact fun z => own.1 (e3 r z)
            | D =>
              have h3 : ow1 x = r :: g := h3
              have nd := fi1.nd x
              rw [h3] at nd
              exact (List.nodup_cons.mp nd).1
          have newRf : Rf p (upd H1 r (.lst (vs ++ us))) (.ref r) (.lst (l ++ qs)) (r :: g) := by
            have t := ((rl.ext e1).poke (ws := vs ++ us) hr1 n1).append (rl2.poke (ws := vs ++ us) hr1 (by simp))
            rw [List.append_nil] at t
            exact .lst upd_same hg t
          have old : ∀ b ∈ ow1 x, ¬ Z1 b ∧ ¬ False ∧ He b = none ∧ (∀ j, j ≠ x → b ∉ ow1 j) ∧ (∀ e ∈ L, e.2 ≠ b) ∧ H1 b ≠ none := fun b ob =>
            ⟨(f1.own x b ob).1, fun z => z, (f1.own x b ob).2.1, fun j e hj => e (f1.one j x b hj ob), fun e he z => hL e he ((f1.lk e he x (z ▸ ob)).symm), (f1.own x b ob).2.2⟩
          obtain ⟨w1, w2⟩ := f1.change (S := fun _ => False) (m := md) (o := ow1 x) h1 hL hr1 hro newRf (fun b hb => hb.elim) old (f1.nd x) (by
            cases md with
            | S => exact absurd rfl hmd
            | R =>
              obtain ⟨c, q', e0, e2, e3⟩ := h3
              exact ⟨c, q', e0, e2, fun b hb => .inl (e3 b hb)⟩
            | D => exact h3)
          have hlen : vs.length + us.length ≤ sizeLine := by
            have := rl.length
            have := rl2.length
            have := hc.1
            rw [sizeLine_eq]; omega
          exact ⟨r, r2, vs, us, rfl, rfl, hr1, hr2, hlen, k1' σ _ _ _ w1 (a1.upd hr1 hg (fi1.gcne hro)) (fun b z => .inl z) w2⟩
        cases md with
        | S => exact k1.elim
        | R => exact fin (by decide) k1
        | D => exact fin (by decide) k1
      · rw [if_neg hc] at k1; exact k1.elim
    | _ => exact k1.elim
  · exact e.elim
end
end Wh

set_option maxHeartbeats 4000000
/-! Wh, part W: the bag read and written. -/
namespace Wh
open PySem PySem.Spec PyProof.Rows L2

section
variable {p : Pl} {H : Hp}
theorem Rf.bag_ {v : V} {fp : List Addr} (r : Rf p H v .bag fp) : v = .ref p.g := by cases r; rfl
theorem RfL.nums : ∀ (l : List Int), RfL p H (l.map V.int) (l.map D.int) []
  | [] => .nil
  | i :: r => RfL.cons (.int i) (RfL.nums r)
theorem bag_row {B : Bag} (a : Amb p B H) : Rf p H (.ref p.gc) (.lst (B.cells.map D.int)) [p.gc] := .lst a.bag.row a.bag.ne (RfL.nums _)
/-- the values of the bag's root -/
def rootV (p : Pl) (B : Bag) : List V := [.int B.big, .int B.seed, .int (B.at_ : Int), .ref p.gc]
theorem bagAt_ok {Z : Addr → Prop} {H0 Hs : Hp} {B : Bag} {j : Nat} {r : RV} (a : Amb p B H) (e : bagAt B j = some r) : ∃ v, (rootV p B)[j]? = some v ∧ atI (rootV p B) (j : Int) = some v ∧ VR p Z H0 Hs r v H := by
  match j, e with
  | 0, e => cases e; exact ⟨_, rfl, rfl, .plain (.int _)⟩
  | 1, e => cases e; exact ⟨_, rfl, rfl, .plain (.int _)⟩
  | 2, e => cases e; exact ⟨_, rfl, rfl, .plain (.int _)⟩
  | 3, e => cases e; exact ⟨_, rfl, rfl, _, bag_row a, trivial⟩
theorem bagSet_ok {B B' : Bag} {j : Nat} {d : D} {v : V} {fp : List Addr} (a : Amb p B H) (r : Rf p H v d fp) (e : bagSet B j d = some B') : ∃ k, ixN (rootV p B).length (j : Int) = some k ∧ Ext p.g H (upd H p.g (.lst ((rootV p B).set k v))) ∧ Amb p B' (upd H p.g (.lst ((rootV p B).set k v))) := by
  have ex : ∀ o, Ext p.g H (upd H p.g o) := fun o b u h => by
    by_cases q : b = p.g
    · subst q; exact ⟨⟨_, upd_same⟩, fun n => absurd rfl n⟩
    · rw [upd_ne q]; exact ⟨⟨_, h⟩, fun _ _ => h⟩
  have am : ∀ (B1 : Bag), B1.cells = B.cells → 0 ≤ B1.big → (0 ≤ B1.seed ∧ B1.seed < 2147483647) → Amb p B1 (upd H p.g (.lst (rootV p B1))) := fun B1 h1 h2 h3 =>
    ⟨⟨upd_same, by rw [upd_ne a.bag.ne, h1]; exact a.bag.row, a.bag.ne, h2, h3, by rw [h1]; exact a.bag.cells⟩, Tabs_upd a.tabs a.bag.root⟩
  cases d with
  | int i =>
    cases r.int_
    match j, e with
    | 0, e =>
      have e : (if 0 ≤ i then some { B with big := i } else none) = some B' := e
      split at e
      · rename_i c
        cases e
        exact ⟨0, rfl, ex _, am { B with big := i } rfl c a.bag.seed⟩
      · cases e
    | 1, e =>
      have e : (if 0 ≤ i ∧ i < 2147483647 then some { B with seed := i } else none) = some B' := e
      split at e
      · rename_i c
        cases e
        exact ⟨1, rfl, ex _, am { B with seed := i } rfl a.bag.big c⟩
      · cases e
    | 2, e =>
      have e : (if 0 ≤ i then some { B with at_ := i.toNat } else none) = some B' := e
      split at e
      · rename_i c
        cases e
        refine ⟨2, rfl, ex _, ?_⟩
        have := am { B with at_ := i.toNat } rfl a.bag.big a.bag.seed
        have h : rootV p { B with at_ := i.toNat } = (rootV p B).set 2 (.int i) := by
          show [V.int B.big, V.int B.seed, V.int (i.toNat : Int), V.ref p.gc] = _
          rw [Int.toNat_of_nonneg c]
          rfl
        rw [h] at this
        exact this
      · cases e
  | _ =>
    match j, e with
    | 0, e => cases e
    | 1, e => cases e
    | 2, e => cases e
end

section
variable {X : Cx} {p : Pl} {C : Cs} {W : WX}
theorem e_bg {e1 e2 : Expr} {i j : Nat} {pos : Pos} (h1 : PE X e1 (tVar i)) (h2 : PE X e2 (tC (.int (j : Int)))) (hs : PlainIx e2) : PE X (.Subscript e1 e2 pos) (rdE p C W (.bg i j)) := by
  refine (pe_ix ix_list h1 h2 hs).weak fun σ H Q h => ?_
  obtain ⟨δ, B, Z, H0, pre, post⟩ := h
  have post : PostG p W σ H (match δ.get i with | some (_, .bag) => (opt (bagAt B j) B).bind fun r B => asTest false r B | _ => .st) _ := post
  split at post
  · rename_i m q
    obtain ⟨v, fp, k1, k2, _⟩ := pre.env.at_ i m _ q
    cases k2.bag_
    obtain ⟨r, hr, h3⟩ := PostG.opt (PostG.bind post)
    obtain ⟨w, _, g1, g2⟩ := bagAt_ok (Z := Z) (H0 := H0) (Hs := H) pre.amb hr
    exact ⟨_, k1, p.g, rootV p B, (j : Int), w, rfl, rfl, SqL.of pre.amb.bag.root, g1, h3 H (.refl _ _) pre.amb H (.refl _ _) pre.amb w g2⟩
  · exact post.elim
variable {Wb : Nat} {lk : List Nat}
/-- bag[j] = e -/
theorem s_bset {tg1 tg2 e : Expr} {i j : Nat} {e' : E} {pos pos' : Pos} (he : PE X e (rdE p C W e')) (h1 : PE X tg1 (tVar i)) (h2 : PE X tg2 (tC (.int (j : Int))))
    (pa : ∀ te to ti, PE X e te → PE X tg1 to → PE X tg2 ti → PS X (.Assign [.Subscript tg1 tg2 pos'] e pos) (tAsg te (gSub to ti rSetL))) : PS X (.Assign [.Subscript tg1 tg2 pos'] e pos) (rdS p C W Wb (.bset i j e') lk) := by
  refine (pa _ _ _ he h1 h2).weak fun D σ H ⟨δ, B, P, He, L, Z, ow, fi, am, hl, e⟩ => ?_
  refine rdX_use (fi.pre am) (post_of (r := ev C e' false δ B) fi.ext e) fun r B1 H1 e1 a1 k1 v hv => ?_
  have f1 := fi.up e1
  split at k1
  · rename_i m q
    split at k1
    · rename_i B2 q2
      obtain ⟨fp, rf⟩ := hv.rf
      obtain ⟨w, fp2, g1, g2, _⟩ := f1.at_ i m _ q
      cases g2.bag_
      obtain ⟨k, hk, ex, am2⟩ := bagSet_ok a1 rf q2
      exact ⟨_, g1, p.g, rootV p B1, (j : Int), k, rfl, rfl, a1.bag.root, hk, k1 σ _ Z ow (f1.up ex) am2 (fun _ z => z) (.of_ext ex _)⟩
    · exact k1.elim
  · exact k1.elim
def rGetP : V → V → Hp → VK → Prop := fun o i H Q => ∃ (q : Addr) (xs : List V) (k : Nat) (v : V), o = .ref q ∧ i = .int (k : Int) ∧ H q = some (.lst xs) ∧ xs[(k : Nat)]? = some v ∧ Q v H
/-- bag[j] += e -/
theorem s_baug {st : Stmt} {tg1 tg2 e : Expr} {i j : Nat} {e' : E} (he : PE X e (rdE p C W e')) (h1 : PE X tg1 (tVar i)) (h2 : PE X tg2 (tC (.int (j : Int))))
    (pa : ∀ te to ti, PE X e te → PE X tg1 to → PE X tg2 ti → PS X st (tAugS to ti te rGetP (ipI fun a b => a + b) rSetL)) : PS X st (rdS p C W Wb (.baug i j e') lk) := by
  refine (pa _ _ _ he h1 h2).weak fun D σ H ⟨δ, B, P, He, L, Z, ow, fi, am, hl, e⟩ => ?_
  have e : EndS p W P He L Z H D (match δ.get i with
    | some (_, .bag) => (match bagAt B j with
      | some ⟨.int a, _⟩ => ofRes (ev C e' false δ B) fun r B => match r.d with
        | .int b => (match bagSet B j (.int (a + b)) with
          | some B => .nx δ B
          | none => .st)
        | _ => .st
      | _ => .st)
    | _ => .st) := e
  split at e
  · rename_i m q
    obtain ⟨w, fp2, g1, g2, _⟩ := fi.at_ i m _ q
    cases g2.bag_
    split at e
    · rename_i a fl q2
      obtain ⟨w, k1, _, k2⟩ := bagAt_ok (Z := Z) (H0 := H) (Hs := H) am q2
      obtain ⟨fp3, k2⟩ := k2.rf
      cases k2.int_
      refine ⟨_, g1, p.g, rootV p B, j, _, rfl, rfl, am.bag.root, k1, rdX_use (fi.pre am) (post_of (r := ev C e' false δ B) fi.ext e) fun r B1 H1 e1 a1 k3 v hv => ?_⟩
      have f1 := fi.up e1
      split at k3
      · rename_i b q3
        split at k3
        · rename_i B2 q4
          obtain ⟨fp, rf⟩ := hv.rf
          rw [q3] at rf
          cases rf.int_
          obtain ⟨k, hk, ex, am2⟩ := bagSet_ok a1 (.int (a + b)) q4
          exact ⟨a, b, rfl, rfl, p.g, rootV p B1, (j : Int), k, rfl, rfl, a1.bag.root, hk, k3 σ _ Z ow (f1.up ex) am2 (fun _ z => z) (.of_ext ex _)⟩
        · exact k3.elim
      · exact k3.elim
    · exact e.elim
  · exact e.elim
theorem pget_lst : PGet X rGetP := by
  intro pins s σ H o i ov iv Q I ro ri h
  obtain ⟨q, xs, k, v, rfl, rfl, hq, hv, hQ⟩ := h
  cases ro
  obtain ⟨t, rfl⟩ := ri
  obtain ⟨its, r, pl, hz⟩ := I.list (SqL.of hq)
  obtain ⟨w, ew, rw'⟩ := r.get hv
  have hk : k < its.length := (List.getElem?_eq_some_iff.mp ew).1
  have hn := line63
  have hl := r.length
  exact getItem_listL pl.isList (by omega) (by omega) (by simpa using ew) ⟨v, H, I, rw', hQ⟩
end
end Wh

set_option maxHeartbeats 4000000
/-! Wh, part X: defs. -/
namespace Wh
open PySem PySem.Spec PyProof.Rows L2

/-- a def's table of code objects -/
def LamOk (p : Pl) (mg : Str → Option Value) (base : Heap) (qual : Str) (cdv : Value) : Prop := ∃ c P, LamX.TabB base mg c P ∧ cdv = .ref c ∧ (P, (qual ++ (".<locals>." : Str)) ++ ("<lambda>" : Str)) ∈ p.T ∧ ∀ q ∈ p.T, q.1 = P → q.2 = (qual ++ (".<locals>." : Str)) ++ ("<lambda>" : Str)
/-- what the head tells of a def of the text -/
structure HeadD (p : Pl) (mg : Str → Option Value) (base : Heap) (Γ : GMs) (Pf : Nat → Option Fn) (Wb : Nat) (f : Nat) (d : Def) : Prop where
  keep : PySem.W.keepIn p.K (.ref (p.F f)) = true
  rest : ∃ (name qual : Str) (params : Arguments) (body : List Stmt) (scope : Scope) (dV kV doc pm cdv ct oc : Value) (an od : Option Addr) (osl : Array (Option Value)) (N ps : List Str),
    p.K.lookup (p.F f) = some ⟨oc, od, .func (PySem.W.fnOf name qual params body scope dV kV doc pm an cdv ct), osl⟩ ∧ PySem.W.codeIn p.K cdv qual = true ∧ FnScope N ps scope ∧ Binds p.K (PySem.W.fnOf name qual params body scope dV kV doc pm an cdv ct) ps [] ∧ ps.length = d.np ∧ N.length = d.ns ∧ d.np ≤ d.ns ∧ (∀ x ∈ N, plainN x = true) ∧
    (p.tb f = true → LamOk p mg base qual cdv) ∧
    ∀ (C : Cs) (k : Nat) (W : WX) (X : Cx), XOk p { Γ with gd := p.hv f, lm := true, tb := p.tb f } N C k W scope (fun _ => true) X → PSs X body (rdSL p C W Wb d.body [])
section
variable {P : Program} {w : World} {mg : Str → Option Value} {base : Heap} {p : Pl} {Γ : GMs} {Pf : Nat → Option Fn} {Wb : Nat}
theorem start_len {N : List Str} {vs : List V} (h : vs.length ≤ N.length) : (start N vs).length = N.length := by
  unfold L2.start
  rw [List.length_append, List.length_map, List.length_replicate]
  omega
theorem start_get {N : List Str} {vs : List V} {i : Nat} {v : V} (h : vs[i]? = some v) : (start N vs)[i]? = some (some v) := by
  unfold L2.start
  rw [List.getElem?_append_left (by rw [List.length_map]; exact (List.getElem?_eq_some_iff.mp h).1), List.getElem?_map, h]
  rfl
/-- the frame at its entry -/
theorem FI.entry {N : List Str} {vs : List V} {ds : List D} {fps : List Addr} {ns : Nat} {B : Bag} {H : Hp} (r : RfL p H vs ds fps) (am : Amb p B H) (hn : N.length = ns) (hl : ds.length ≤ ns) :
    FI p (fun a => a ∈ fps) H [] (fun a => a ∈ fps) (fun _ => []) (ds.map (fun x => some (Md.S, x)) ++ List.replicate (ns - ds.length) none) (start N vs) H where
  ext := .refl _ _
  gc := by rw [am.bag.row]; exact fun z => by cases z
  len := by
    rw [start_len (by rw [r.length]; omega), List.length_append, List.length_map, List.length_replicate]
    omega
  nd := fun _ => List.nodup_nil
  own := fun i b hb => by cases hb
  one := fun i j b hb => by cases hb
  lk := fun e he => by cases he
  at_ := fun i m d q => by
    unfold Env.get at q
    by_cases hi : i < ds.length
    · rw [List.getElem?_append_left (by rw [List.length_map]; exact hi), List.getElem?_map, List.getElem?_eq_getElem hi] at q
      cases q
      obtain ⟨v, f1, h1, h2, h3⟩ := r.get (List.getElem?_eq_getElem hi)
      exact ⟨v, f1, start_get h1, h2, fun b hb => h3.subset hb⟩
    · rw [List.getElem?_append_right (by rw [List.length_map]; omega), List.getElem?_replicate] at q
      split at q <;> rename_i q2 <;> (split at q2 <;> first | (cases q2; cases q) | cases q2 | skip)
      all_goals cases q
  zp := fun b hb => ⟨.inl hb, by
    obtain ⟨us, q, _⟩ := r.there b hb
    rw [q]; exact fun z => by cases z⟩
  lth := fun e he => by cases he
/-- one more level of calls -/
theorem fn_py {k f : Nat} {d : Def} (hd : HeadD p mg base Γ Pf Wb f d) (hf : Pf f = some (.py d)) (gl : GOk p mg Γ) (ih : ∀ g, p.ok g → FnG P w mg base p (callN Pf Wb k) k g) : FnG P w mg base p (callN Pf Wb (k + 1)) (k + 1) f := by
  obtain ⟨keep, name, qual, params, body, scope, dV, kV, doc, pm, cdv, ct, oc, an, od, osl, N, ps, lk, hcd, S, hb, hps, hN, hle, hpl, htb, hbody⟩ := hd
  have hC : ∀ ds B, callN Pf Wb (k + 1) f ds B = if ds.length = d.np then
        (match exL (callN Pf Wb k) Wb d.body [] (ds.map (fun x => some (.S, x)) ++ List.replicate (d.ns - d.np) none) B with
        | .ret r B => .ok r B
        | .nx _ B => .ok ⟨.non, .D⟩ B
        | .exc x B => .exc x B
        | _ => .st) else .st := fun ds B => by
    show (match Pf f with | some (.py d) => _ | some .take => _ | none => _) = _
    first | (rw [hf]; done) | (rw [hf]; rfl)
  refine ⟨keep, _, ps, hb, fun ds B hn => by rw [hC, if_neg (by rw [← hps]; exact hn)], ?_⟩
  intro A outer s H args us vs Q E hg hr e0 bt rv hsp
  obtain ⟨ds, fps, B, q1, q2, q3⟩ := hsp
  rw [hC] at q3
  by_cases hn : ds.length = d.np
  case neg => rw [if_neg hn] at q3; exact q3.elim
  rw [if_pos hn] at q3
  have hvl : vs.length = ps.length := by rw [q1.length, hn, hps]
  -- into the frame
  have inK : p.K.In s.heap := e0.mod.kin.keeps fun b o e => (e0.bs b o e).1
  have noLim : s.heap.NoLimit := e0.mod.nolimit.keeps fun b o e => (e0.bs b o e).1
  have kinds : ∀ y ∈ ps.zip us, scope.names.lookup y.1 = some .local ∨ (scope.names.lookup y.1 = some .cell ∧ ((cellsFrom (s.heap.objs.size + 1) scope.names []).lookup y.1).isSome = true) := by
    rintro ⟨n, v⟩ hy
    exact (S.par n (List.of_mem_zip hy).1).imp id fun q => ⟨q, PySem.W.cellsFrom_some _ _ _ (.inl q)⟩
  refine codeAny_call_function hr.depth (inK _ _ lk) rfl S.co S.gen rfl (PySem.W.codeRec_of inK hcd) (bt _ _ _ _ ?_)
  refine wpAny_newFunctionEnv_cells S.kind kinds fun env he s1 x => ?_
  subst he
  refine ⟨noLim.keeps x.toInCall.keep, codeAny_func ?_⟩
  let X := cxOf (L2.CX P w) P w p.K mg base N qual scope (p.F f) cdv A outer s H E
  have hr2 : Room (3 * k + 2) (A.deeper (envOfC qual scope s.heap.objs.size (p.F f) cdv)) := Room.deeper (k := 3 * k + 2) (hr.mono (by omega)) _
  have hcode : X.env.code = cdv := rfl
  have hqual : X.env.qual = qual ++ (".<locals>." : Str) := rfl
  have lam : p.tb f = true → ∃ c P, LamX.TabB X.base X.mg c P ∧ X.env.code = .ref c ∧ (P, X.env.qual ++ ("<lambda>" : Str)) ∈ p.T ∧ ∀ q ∈ p.T, q.1 = P → q.2 = X.env.qual ++ ("<lambda>" : Str) := by
    rw [hcode, hqual]
    exact htb
  have XO : XOk p { Γ with gd := p.hv f, lm := true, tb := p.tb f } N (callN Pf Wb k) k (fun cls d _ H => E cls d H) scope (fun _ => true) X :=
    ⟨rfl, rfl, S.nd, rfl, hr2.mono (by omega), fun _ => hr2, hg, rfl, fun _ _ => rfl, S.kind, passes_of (X := X) rfl, takes_of (X := X) rfl rfl rfl rfl, ih, gl.flag _ _ _, hpl, lam⟩
  have I : Inv X [] (start N vs) H s1 := inv_start S hr.hd e0 hvl rv x
  have fi := FI.entry (N := N) q1 q2 hN (by rw [hn]; exact hle)
  have red : rdSL p (callN Pf Wb k) (fun cls d _ H => E cls d H) Wb d.body [] { nx := fun _ H' => Q .non H', rt := Q } (start N vs) H := by
    refine ⟨_, B, _, _, _, _, _, fi, q2, fun e he => (by cases he), ?_⟩
    rw [hn]
    revert q3
    cases exL (callN Pf Wb k) Wb d.body [] (ds.map (fun x => some (.S, x)) ++ List.replicate (d.ns - d.np) none) B with
    | nx δ B1 => exact fun q3 σ' H' Z' ow' f2 a _ _ => q3 .non H' f2.ext a rfl (.plain .non)
    | ret r B1 => exact fun q3 v H' e a hl hv => q3 v H' e a hl hv
    | exc x B1 => exact fun q3 cls dx σ' H' e a hx => q3 cls dx H' e a hx
    | brk δ B1 => exact fun q3 => q3.elim
    | cnt δ B1 => exact fun q3 => q3.elim
    | st => exact fun q3 => q3.elim
  refine wpAny_mono ((hbody _ k _ X XO).run [] s1 (start N vs) H _ I red) (fun fl s' hs => ?_) fun e s' hs => hs
  have done : ∀ {σ' : L2.St} {H' : Hp} {v : V} {u : Value}, Inv X [] σ' H' s' → RelV v u → Q v H' → CE outer P w H s Q u s' := fun J rv q => ⟨_, _, J.os, J.bare, J.base, J.hok, rv, q⟩
  match fl, hs with
  | .ret u, ⟨v, σ', H', J, rv, q⟩ => exact done J rv q
  | .next, ⟨σ', H', J, q⟩ => exact done (v := V.non) (u := Value.none) J rfl q
  | .brk, ⟨_, _, _, q⟩ => exact q.elim
  | .cont, ⟨_, _, _, q⟩ => exact q.elim
end
end Wh

set_option maxHeartbeats 4000000
/-! Wh, part Y: our syntax is the text's. -/
namespace Wh
open PySem PySem.Spec PyProof.Rows L2

mutual
def D.same : D → D → Bool
  | .non, .non => true
  | .bl a, .bl b => a == b
  | .int a, .int b => decide (a = b)
  | .str a, .str b => decide (a = b)
  | .tup a, .tup b => D.sameL a b
  | .lst a, .lst b => D.sameL a b
  | _, _ => false
def D.sameL : List D → List D → Bool
  | [], [] => true
  | a :: r, b :: q => D.same a b && D.sameL r q
  | _, _ => false
end
mutual
theorem D.same_eq : ∀ {a b : D}, D.same a b = true → a = b
  | .non, b, h => by cases b <;> first | rfl | cases h
  | .bl x, b, h => by cases b <;> first | (simp [D.same] at h; rw [h]) | cases h
  | .int x, b, h => by cases b <;> first | (simp [D.same] at h; rw [h]) | cases h
  | .str x, b, h => by cases b <;> first | (simp [D.same] at h; rw [h]) | cases h
  | .tup x, b, h => by cases b <;> first | (simp [D.same] at h; rw [D.sameL_eq h]) | cases h
  | .lst x, b, h => by cases b <;> first | (simp [D.same] at h; rw [D.sameL_eq h]) | cases h
  | .dct x, b, h => by cases b <;> cases h
  | .set x, b, h => by cases b <;> cases h
  | .fn x, b, h => by cases b <;> cases h
  | .bag, b, h => by cases b <;> cases h
  | .pr x, b, h => by cases b <;> cases h
theorem D.sameL_eq : ∀ {a b : List D}, D.sameL a b = true → a = b
  | [], [], _ => rfl
  | [], _ :: _, h => by cases h
  | _ :: _, [], h => by cases h
  | x :: r, y :: q, h => by
    simp only [D.sameL, Bool.and_eq_true] at h
    rw [D.same_eq h.1, D.sameL_eq h.2]
end

def notStar : Expr → Bool
  | .Starred _ _ => false
  | _ => true
theorem star_cons {e : Expr} {es : List Expr} {env : PySem.Env} (h : notStar e = true) : starEach (e :: es) env = (false, eval e env) :: starEach es env := by
  cases e <;> first | rfl | cases h
theorem star_any {pos : Pos} {env : PySem.Env} : ∀ {es : List Expr}, es.all notStar = true → (backTo pos (starEach es env)).any (·.1) = false
  | [], _ => rfl
  | e :: es, h => by
    simp only [List.all_cons, Bool.and_eq_true] at h
    rw [star_cons h.1]
    show (false || (backTo pos (starEach es env)).any (·.1)) = false
    rw [star_any h.2]
    rfl
def isSlice : Expr → Bool
  | .Slice _ _ _ _ => true
  | _ => false
theorem plainIx {b : Expr} (h : isSlice b = false) : PlainIx b := fun o i => by
  cases b <;> first | rfl | cases h
def visB (sc : Scope) (x : Str) : Bool := match sc.names.lookup x with
  | some .local => true
  | some .cell => true
  | some .free => true
  | _ => false
theorem visOk {sc : Scope} {x : Str} (h : visB sc x = true) : Vis sc x := by
  unfold visB at h
  split at h
  · exact .inl (by assumption)
  · exact .inr (.inl (by assumption))
  · exact .inr (.inr (by assumption))
  · cases h
def glB (sc : Scope) (x : Str) : Bool := match sc.names.lookup x with
  | some .globalImplicit => true
  | _ => false
def locB (sc : Scope) (x : Str) : Bool := match sc.names.lookup x with
  | some .local => true
  | some .cell => true
  | _ => false
theorem locOk {sc : Scope} {x : Str} (h : locB sc x = true) : Loc sc x := by
  unfold locB at h
  split at h
  · exact .inl (by assumption)
  · exact .inr (by assumption)
  · cases h
theorem glOk {X : Cx} {sc : Scope} {x : Str} (hs : X.env.scope = sc) (h : glB sc x = true) : Gl X x := by
  unfold glB at h
  split at h
  · show X.env.scope.names.lookup x = _
    rw [hs]; assumption
  · cases h
/-- the operators -/
def opB : O2 → Operator → Bool
  | .add, .Add => true | .sub, .Sub => true | .mul, .Mult => true | .mod, .Mod => true | .fdiv, .FloorDiv => true | .pow, .Pow => true
  | _, _ => false
def opC : O2 → CmpOp → Bool
  | .eq, .Eq => true | .ne, .NotEq => true | .lt, .Lt => true | .le, .LtE => true | .gt, .Gt => true | .ge, .GtE => true
  | .isin, .In => true | .notin, .NotIn => true | .is_, .Is => true | .isnot, .IsNot => true
  | _, _ => false
def Bi.nm : Bi → String
  | .len => "len" | .tuple => "tuple" | .list => "list" | .repr => "repr" | .abs => "abs" | .int => "int"
  | .sset => "sorted" | .sorted => "sorted" | .min => "min" | .max => "max" | .sum => "sum" | .any => "any" | .all => "all"
def Bi.ok : Bi → Bool
  | .sset => false
  | _ => true
/-- what asks that nothing is being shown -/
def Bi.gd : Bi → Bool
  | .repr => true
  | _ => false
/-- a call without arguments -/
def isCall0 : Expr → Bool
  | .Call _ [] _ _ => true
  | _ => false
theorem base_of {o : Expr} {nm : Str} {env : PySem.Env} {whole : Sem Value} (h : isCall0 o = false) : attributeBase o nm env whole = whole := by
  cases o with
  | Call f args kws pos => cases args with
    | nil => cases h
    | cons x xs => cases f <;> rfl
  | _ => rfl
/-- the names of a block, with their places -/
def ownOf (N : List Str) (ws : List Nat) : List (Str × Nat) := ws.map fun i => ((N[i]?).getD (Str.ofString ""), i)
theorem own_snd {N : List Str} {ws : List Nat} : (ownOf N ws).map (·.2) = ws := by
  unfold ownOf
  rw [List.map_map]
  exact List.map_id _
def isSetE : Expr → Bool
  | .Set _ _ _ => true
  | _ => false
theorem folded_of {e : Expr} {env : PySem.Env} (h : isSetE e = false) (x : Value) : foldedSetIterable e env x = pure x := by
  cases e <;> first | rfl | cases h
/-- a target's names -/
def chkTs (N : List Str) (sc : Scope) (fo : Str → Bool) : List Nat → List Expr → Bool
  | [], [] => true
  | i :: is, .Name x _ :: es => decide (N[i]? = some x) && locB sc x && (fo x || decide (sc.names.lookup x = some .local)) && chkTs N sc fo is es
  | _, _ => false
def chkT (N : List Str) (sc : Scope) (fo : Str → Bool) : Tg → Expr → Bool
  | .n i, .Name x _ => decide (N[i]? = some x) && locB sc x && (fo x || decide (sc.names.lookup x = some .local))
  | .tup is, .Tuple es _ _ => chkTs N sc fo is es
  | _, _ => false
/-- a lambda without parameters -/
def noArgB : Arguments → Bool
  | ⟨[], [], none, [], [], none, []⟩ => true
  | _ => false
theorem noArg_of {as : Arguments} (h : noArgB as = true) : as = noArg := by
  unfold noArgB at h
  split at h
  · rfl
  · cases h
/-- the names that a block's own cells give -/
def foB (scope : Scope) : Str → Bool := fun x => scope.names.lookup x == some .cell
mutual
def chkE (N : List Str) : GMs → E → Scope → Expr → Bool
  | Γ, .v i, sc, e => match e with
    | .Name x _ => decide (N[i]? = some x) && visB sc x
    | _ => false
  | Γ, .k d, sc, e => match e with
    | .Constant c _ _ => (match c, d with
      | .none, .non => true
      | .bool a, .bl b => a == b
      | .int a, .int b => decide (a = b)
      | .str a, .str b => decide (a = b)
      | _, _ => false)
    | _ => false
  | Γ, .gc j d, sc, e => match e with
    | .Name x _ => glB sc x && (match Γ.cst j with | some (y, d') => decide (y = x) && D.same d' d | none => false)
    | _ => false
  | Γ, .fn _, _, _ => false
  | Γ, .tup l, sc, e => match e with
    | .Tuple es _ _ => chkL N Γ l sc es
    | _ => false
  | Γ, .lst l, sc, e => match e with
    | .List es _ => chkL N Γ l sc es
    | _ => false
  | Γ, .o2 o a b, sc, e => match e with
    | .BinOp x op y _ => opB o op && chkE N Γ a sc x && chkE N Γ b sc y
    | .Compare x ops ys _ => (match ops, ys with
      | [op], [y] => opC o op && !(behindInMarks op y) && chkE N Γ a sc x && chkE N Γ b sc y
      | _, _ => false)
    | _ => false
  | Γ, .ch o q a b c, sc, e => match e with
    | .Compare x ops ys _ => (match ops, ys with
      | [op, op2], [y, z] => opC o op && opC q op2 && !(lastMarks [op, op2] [y, z]) && chkE N Γ a sc x && chkE N Γ b sc y && chkE N Γ c sc z
      | _, _ => false)
    | _ => false
  | Γ, .neg a, sc, e => match e with
    | .UnaryOp .USub x _ => chkE N Γ a sc x
    | _ => false
  | Γ, .nt a, sc, e => match e with
    | .UnaryOp .Not x _ => chkE N Γ a sc x
    | _ => false
  | Γ, .an l, sc, e => match e with
    | .BoolOp .And es _ => chkLN N Γ l sc es
    | _ => false
  | Γ, .or l, sc, e => match e with
    | .BoolOp .Or es _ => chkLN N Γ l sc es
    | _ => false
  | Γ, .ife c a b, sc, e => match e with
    | .IfExp x y z _ => chkE N Γ c sc x && chkE N Γ a sc y && chkE N Γ b sc z
    | _ => false
  | Γ, .ix a i, sc, e => match e with
    | .Subscript x y _ => !(isSlice y) && chkE N Γ a sc x && chkE N Γ i sc y
    | _ => false
  | Γ, .sl a lo hi, sc, e => match e with
    | .Subscript x (.Slice l h none _) _ => chkE N Γ a sc x && chkO N Γ lo sc l && chkO N Γ hi sc h
    | _ => false
  | Γ, .call f l, sc, e => match e with
    | .Call (.Name x _) es [] _ => glB sc x && decide (Γ.fn f = some x) && (Γ.gd || !Γ.hv f) && chkL N Γ l sc es
    | _ => false
  | Γ, .bi b l, sc, e => match e with
    | .Call (.Name x _) es [] _ => (match b, es with
      | .sset, [.Call (.Name z _) [y] [] _] => decide (x = Str.ofString "sorted") && glB sc x && decide (z = Str.ofString "set") && glB sc z && chkL N Γ l sc [y]
      | b, es => b.ok && (Γ.gd || !b.gd) && decide (x = Str.ofString b.nm) && glB sc x && (match es with | _ :: _ => true | [] => false) && chkL N Γ l sc es)
    | _ => false
  | Γ, .isi a t, sc, e => match e with
    | .Call (.Name x _) es [] _ => (match es with
      | [y, .Name z _] => decide (x = Str.ofString "isinstance") && glB sc x && decide (z = Str.ofString t.nm) && glB sc z && notStar y && chkE N Γ a sc y
      | _ => false)
    | _ => false
  | Γ, .me m a l, sc, e => match e with
    | .Call (.Attribute o nm apos) es [] cpos => (match es, m with
      | [y], .index => decide (nm = Str.ofString "index") && !(isCall0 o) && (apos.endLine == cpos.line) && notStar y && chkE N Γ a sc o && chkL N Γ l sc [y]
      | _, _ => false)
    | _ => false
  | Γ, .cv _ _, _, _ => false
  | Γ, .comp ws elt g, sc, e => match e with
    | .ListComp x gs scope _ => blkC N sc scope (ownOf N ws) && chkE N Γ elt (relS scope sc) x && chkG N Γ ws g sc (relS scope sc) (foB scope) gs
    | _ => false
  | Γ, .dcomp ws a v g, sc, e => match e with
    | .DictComp x y gs scope _ => blkC N sc scope (ownOf N ws) && chkE N Γ a (relS scope sc) x && chkE N Γ v (relS scope sc) y && (match g with | .one _ _ _ => true | _ => false) && chkG N Γ ws g sc (relS scope sc) (foB scope) gs
    | _ => false
  | Γ, .bg i j, sc, e => match e with
    | .Subscript (.Name x _) (.Constant (.int n) _ _) _ => decide (N[i]? = some x) && visB sc x && decide (n = (j : Int))
    | _ => false
  | Γ, .heard f c a, sc, e => match e with
    | .Call (.Name x _) [.Lambda as b scope _] [] _ => Γ.tb && Γ.lm && glB sc x && decide (Γ.hd f = some (x, c)) && LamX.lamSB sc scope && noArgB as && chkE N { Γ with gd := false, lm := false, tb := false } a scope b
    | _ => false
def chkL (N : List Str) : GMs → EL → Scope → List Expr → Bool
  | Γ, .nil, _, es => match es with
    | [] => true
    | _ => false
  | Γ, .cons e r, sc, es => match es with
    | x :: xs => notStar x && chkE N Γ e sc x && chkL N Γ r sc xs
    | [] => false
/-- at least one -/
def chkLN (N : List Str) : GMs → EL → Scope → List Expr → Bool
  | Γ, .nil, _, _ => false
  | Γ, .cons e r, sc, es => match es with
    | [x] => (match r with | .nil => true | _ => false) && chkE N Γ e sc x
    | x :: y :: xs => (match r with | .nil => false | _ => true) && chkE N Γ e sc x && chkLN N Γ r sc (y :: xs)
    | [] => false
def chkO (N : List Str) : GMs → OE → Scope → Option Expr → Bool
  | Γ, .none, _, o => match o with
    | none => true
    | _ => false
  | Γ, .some e, sc, o => match o with
    | some x => chkE N Γ e sc x
    | none => false
def chkS (N : List Str) : GMs → Src → Scope → Expr → Expr → Bool
  | Γ, .v i, sc, _, e => match e with
    | .Name x _ => decide (N[i]? = some x) && visB sc x
    | _ => false
  | Γ, .e a, sc, _, e => !(isSetE e) && chkE N Γ a sc e
  | Γ, .rng l, sc, _, e => match e with
    | .Call (.Name x _) es [] _ => decide (x = Str.ofString "range") && glB sc x && chkL N Γ l sc es && (match es with | [_] => true | [_, _] => true | _ => false)
    | _ => false
  | Γ, .zip l, sc, tg, e => match e with
    | .Call (.Name x _) es [] _ => decide (x = Str.ofString "zip") && glB sc x && chkL N Γ l sc es && (match es, tg with | [_, _], .Tuple _ _ _ => true | _, _ => false)
    | _ => false
  | Γ, .enum a, sc, tg, e => match e with
    | .Call (.Name x _) es [] _ => decide (x = Str.ofString "enumerate") && glB sc x && (match es with | [y] => notStar y && chkE N Γ a sc y | _ => false) && (match tg with | .Tuple _ _ _ => true | _ => false)
    | _ => false
/-- a clause's tests: none or one -/
def chkC (N : List Str) : GMs → EL → Scope → List Expr → Bool
  | Γ, .nil, _, es => match es with
    | [] => true
    | _ => false
  | Γ, .cons e r, sc, es => match es with
    | [x] => (match r with | .nil => true | _ => false) && chkE N Γ e sc x
    | _ => false
def chkG (N : List Str) : GMs → List Nat → GL → Scope → Scope → (Str → Bool) → List Comprehension → Bool
  | Γ, ws, .one t s c, sc, sc2, fo, gs => match gs with
    | [⟨tg, it, ifs, ia⟩] => decide (ia = 0) && t.slots.all (fun i => ws.contains i) && chkT N sc2 fo t tg && chkS N Γ s sc tg it && !(isSetE it) && chkC N Γ c sc2 ifs
    | _ => false
  | Γ, ws, .two t s c ws2 t2 s2 c2, sc, sc2, fo, gs => match gs with
    | [⟨tg, it, ifs, ia⟩, ⟨tg2, it2, ifs2, ia2⟩] => decide (ia = 0) && decide (ia2 = 0) && t.slots.all (fun i => ws.contains i) && t2.slots.all (fun i => ws2.contains i) && ws2.all (fun i => ws.contains i) && chkT N sc2 fo t tg && chkS N Γ s sc tg it && !(isSetE it) && chkC N Γ c sc2 ifs &&
        chkT N sc2 fo t2 tg2 && chkS N Γ s2 sc2 tg2 it2 && !(isSetE it2) && chkC N Γ c2 sc2 ifs2
    | _ => false
end
end Wh

set_option maxHeartbeats 4000000
/-! Wh, part Z: what is checked reads as it evaluates. -/
namespace Wh
open PySem PySem.Spec PyProof.Rows L2

section
variable {p : Pl} {Γ : GMs} {N : List Str} {C : Cs} {k : Nat} {W : WX} {sc : Scope} {fo : Str → Bool} {X : Cx}
theorem XOk.nm (O : XOk p Γ N C k W sc fo X) {i : Nat} {x : Str} (h : N[i]? = some x) : X.N[i]? = some x ∧ (x == ("__debug__" : Str)) = false ∧ (x == ("__classdict__" : Str)) = false := by
  rw [← O.N] at h
  exact ⟨h, plainN_d (O.ndN x (List.mem_of_getElem? h))⟩
theorem XOk.var (O : XOk p Γ N C k W sc fo X) {i : Nat} {x : Str} {pos : Pos} (h : N[i]? = some x) (hv : visB sc x = true) : PE X (.Name x pos) (tVar i) := by
  obtain ⟨h1, h2, h3⟩ := O.nm h
  exact pe_var h1 (by rw [O.scope]; exact visOk hv) h2 h3
theorem XOk.mgb (O : XOk p Γ N C k W sc fo X) {b : String} (h : b ∈ bltN) : X.mg (Str.ofString b) = none := O.gl.blt b h
theorem both (O : XOk p Γ N C k W sc fo X) {e : Expr} {e' : E} (he : PE X e (rdE p C W e')) (hi : ∀ whole, isTrue e X.env whole = (do let v ← whole; standAt e.pos; holding [v] (truthy v))) : PE X e (rdE p C W e') ∧ PT X e (rdT p C W e') :=
  ⟨he, t_dflt O.K he hi (ev_tt C e')⟩
theorem XOk.blk (O : XOk p Γ N C k W sc fo X) {scope : Scope} (hk : scope.kind = .function) (s : Shared) (H : Hp) (Ca : Addr) (cl : List (Str × Addr)) (fp : List Addr) : XOk p Γ N C k WF (relS scope sc) (foB scope) (X.blk s H scope (compEnvC scope cl Ca X.env) fp) where
  K := O.K
  N := O.N
  nd := O.nd
  calm := O.calm
  room := O.room
  room2 := O.room2
  guards := O.guards
  scope := by rw [← O.scope]; rfl
  fnx := fun x h => h
  kind := hk
  pass := PassesOwn.never
  takes := fun u s' x => by
    obtain ⟨_, _, _, _, _, _, _, _, _, _, _, _, _, _, _, _, z⟩ := x
    exact z.elim
  calls := O.calls
  gl := O.gl
  ndN := O.ndN
  lam := O.lam
/-! operators -/
theorem op_of (O : XOk p Γ N C k W sc fo X) {o : O2} {op : Operator} (h : opB o op = true) : OpR X (binaryOp op) (rD2 p (o2F o)) := by
  cases o <;> cases op <;> first | cases h | skip
  · exact op_catD O.K
  · exact op_subD
  · exact op_mulD
  · exact op_modD
  · exact op_fdivD
  · exact op_powD
theorem cmp_of (O : XOk p Γ N C k W sc fo X) {o : O2} {op : CmpOp} (h : opC o op = true) : OpR X (compareOp op) (rD2 p (o2F o)) ∧ o.cmp = true := by
  have hu := O.hu
  cases o <;> cases op <;> first | cases h | skip
  · exact ⟨op_eqDD O.K (by omega), rfl⟩
  · exact ⟨op_neDD O.K (by omega), rfl⟩
  · exact ⟨op_ltD, rfl⟩
  · exact ⟨op_leD, rfl⟩
  · exact ⟨op_gtD, rfl⟩
  · exact ⟨op_geD, rfl⟩
  · exact ⟨op_inDD O.K hu, rfl⟩
  · exact ⟨op_niDD O.K hu, rfl⟩
  · exact ⟨op_isDD, rfl⟩
  · exact ⟨op_notDD, rfl⟩
theorem bi_of (O : XOk p Γ N C k W sc fo X) {b : Bi} (hb : b.ok = true) (hh : (Γ.gd || !b.gd) = true) {e : Expr} {es : List Expr} {t : TA} {q pos : Pos} (hg : Gl X (Str.ofString b.nm)) (ha : PA X (e :: es) t) (he : starEach (e :: es) X.env = (false, eval e X.env) :: starEach es X.env) (hpl : (backTo pos (starEach es X.env)).any (·.1) = false) :
    PE X (.Call (.Name (Str.ofString b.nm) q) (e :: es) [] pos) (tCB (rDN p (biF b)) t) := by
  have hu := O.hu
  cases b
  · cases hb
  · exact pe_callB (bi_len O.K) hg (O.mgb (by decide)) (by decide +kernel) ha (by decide) (by decide) he hpl
  · exact pe_callTy (bi_tuple O.K) hg (O.mgb (by decide)) (by decide +kernel) ha (by decide) (by decide) he hpl
  · exact pe_callTy (bi_list O.K) hg (O.mgb (by decide)) (by decide +kernel) ha (by decide) (by decide) he hpl
  · exact pe_callB (bi_sorted O.K hu) hg (O.mgb (by decide)) (by decide +kernel) ha (by decide) (by decide) he hpl
  · exact pe_callB (bi_repr O.K (O.guards (by simpa [Bi.gd] using hh)) (by omega)) hg (O.mgb (by decide)) (by decide +kernel) ha (by decide) (by decide) he hpl
  · exact pe_callTy bi_int hg (O.mgb (by decide)) (by decide +kernel) ha (by decide) (by decide) he hpl
  · exact pe_callB bi_abs hg (O.mgb (by decide)) (by decide +kernel) ha (by decide) (by decide) he hpl
  · exact pe_callB (bi_min O.K O.calm) hg (O.mgb (by decide)) (by decide +kernel) ha (by decide) (by decide) he hpl
  · exact pe_callB (bi_max O.K O.calm) hg (O.mgb (by decide)) (by decide +kernel) ha (by decide) (by decide) he hpl
  · exact pe_callB (bi_sum O.K O.calm) hg (O.mgb (by decide)) (by decide +kernel) ha (by decide) (by decide) he hpl
  · exact pe_callB (bi_any O.K O.calm) hg (O.mgb (by decide)) (by decide +kernel) ha (by decide) (by decide) he hpl
  · exact pe_callB (bi_all O.K O.calm) hg (O.mgb (by decide)) (by decide +kernel) ha (by decide) (by decide) he hpl
theorem both2 (O : XOk p Γ N C k W sc fo X) {o q : O2} {op op2 : CmpOp} {a b c : Expr} {a' b' c' : E} {pos : Pos} (ha : PE X a (rdE p C W a') ∧ PT X a (rdT p C W a')) (hb : PE X b (rdE p C W b') ∧ PT X b (rdT p C W b')) (hc : PE X c (rdE p C W c') ∧ PT X c (rdT p C W c'))
    (h1 : OpR X (compareOp op) (rD2 p (o2F o))) (h2 : OpR X (compareOp op2) (rD2 p (o2F q))) (l1 : lastMarks [op, op2] [b, c] = false) : PE X (.Compare a [op, op2] [b, c] pos) (rdE p C W (.ch o q a' b' c')) ∧ PT X (.Compare a [op, op2] [b, c] pos) (rdT p C W (.ch o q a' b' c')) :=
  ⟨e_ch ha.1 hb.1 hc.1 fun ta tb tc x y z => pe_chain h1 h2 x y z l1, t_ch ha.1 hb.1 hc.1 fun ta tb tc x y z => pt_chain h1 h2 x y z l1⟩
theorem few_one {e : Expr} {cpos : Pos} (h : notStar e = true) : ((backTo cpos (starEach [e] X.env)).all (fun x => !x.1) && (backToKw cpos (keywordEach [] X.env)).all (fun x => x.1.isSome)
      && decide (([e] : List Expr).length + ([] : List Keyword).length + (if ([] : List Keyword).isEmpty then 0 else 1) < 30)) = true := by
  rw [star_cons h]
  rfl
/-! targets -/
theorem pg_1 (O : XOk p Γ N C k W sc fo X) {i : Nat} {x : Str} {pos : Pos} (h1 : N[i]? = some x) (h2 : locB sc x = true) (h3 : (fo x || decide (sc.names.lookup x = some .local)) = true) : PG X (.Name x pos) (gName i) := by
  refine pg_name O.nd (O.nm h1).1 (by rw [O.scope]; exact locOk h2) ?_
  simp only [Bool.or_eq_true, decide_eq_true_eq] at h3
  exact h3.imp (O.fnx x) fun z => by rw [O.scope]; exact z
theorem pgs_of (O : XOk p Γ N C k W sc fo X) : ∀ {is : List Nat} {es : List Expr}, chkTs N sc fo is es = true → PGs X es (gNames is) ∧ (assignEach es X.env).length = is.length ∧ (assignEach es X.env).findIdx? (·.1) = none
  | [], [], _ => ⟨pgs_nil, rfl, rfl⟩
  | [], _ :: _, h => by cases h
  | i :: is, [], h => by cases h
  | i :: is, e :: es, h => by
    unfold chkTs at h
    split at h
    · rename_i h0; cases h0
    · rename_i h0 h1
      cases h0; cases h1
      simp only [Bool.and_eq_true, decide_eq_true_eq] at h
      obtain ⟨⟨⟨h1, h2⟩, h3⟩, h4⟩ := h
      obtain ⟨q1, q2, q3⟩ := pgs_of O h4
      refine ⟨pgs_cons (pg_1 O h1 h2 h3) q1 rfl, congrArg (· + 1) q2, ?_⟩
      show List.findIdx? (·.1) ((false, _) :: assignEach es X.env) = none
      rw [List.findIdx?_cons]
      simp only [Bool.false_eq_true, if_false]
      rw [q3]
      rfl
    · cases h
theorem pgT_of (O : XOk p Γ N C k W sc fo X) {t : Tg} {e : Expr} (h : chkT N sc fo t e = true) : PG X e (gT X.K t) ∧ PG X e (rdG p t) := by
  unfold chkT at h
  split at h
  · simp only [Bool.and_eq_true, decide_eq_true_eq] at h
    obtain ⟨⟨h1, h2⟩, h3⟩ := h
    have g := pg_1 O h1 h2 h3 (pos := by assumption)
    exact ⟨g, g_name g⟩
  · rename_i is es kk pos
    obtain ⟨q1, q2, q3⟩ := pgs_of O h
    have g := pg_tup (pos := pos) (k := kk) O.calm q1 q2 q3
    exact ⟨g, g_tup O.K g⟩
  · cases h
theorem rdC_nil : PTs X [] (rdC p C W .nil) := ⟨fun pins s σ H Q I ⟨δ, B, Z, H0, pre, post⟩ => pts_nil.run pins s σ H Q I (post H (.refl _ _) pre.amb)⟩
theorem rdC_one {e : Expr} {e' : E} (h : PT X e (rdT p C W e')) : PTs X [e] (rdC p C W (.cons e' .nil)) := ⟨fun pins s σ H Q I ⟨δ, B, Z, H0, pre, post⟩ => (pts_one h).run pins s σ H Q I (rdY_use pre (PostG.bind (r := ev C e' true δ B) post) fun r B1 H1 e1 a1 h1 => by
    obtain ⟨d, f⟩ := r
    cases d with
    | bl b =>
      refine ⟨b, rfl, ?_⟩
      cases b with
      | true => exact h1 H1 (.refl _ _) a1
      | false => exact h1 H1 (.refl _ _) a1
    | _ => exact h1.elim)⟩
/-- an argument list's items -/
theorem l_of_cons {e : Expr} {es : List Expr} {e' : E} {l : EL} (hs : notStar e = true) (he : PE X e (rdE p C W e')) (hl : PA X es (rdL p C W l)) : PA X (e :: es) (rdL p C W (.cons e' l)) := l_cons he hl (star_cons hs)
end
theorem chkL_star {N : List Str} {Γ : GMs} {sc : Scope} : ∀ {l : EL} {es : List Expr}, chkL N Γ l sc es = true → es.all notStar = true
  | .nil, [], _ => rfl
  | .nil, _ :: _, h => by cases h
  | .cons e r, [], h => by cases h
  | .cons e r, x :: xs, h => by
    simp only [chkL, Bool.and_eq_true] at h
    simp only [List.all_cons, Bool.and_eq_true]
    exact ⟨h.1.1, chkL_star h.2⟩
section
variable {p : Pl} {N : List Str} {C : Cs} {k : Nat}
mutual
theorem chkE_ok : ∀ (e' : E) {Γ : GMs} {sc : Scope} {W : WX} {fo : Str → Bool} {X : Cx} {e : Expr}, XOk p Γ N C k W sc fo X → chkE N Γ e' sc e = true → PE X e (rdE p C W e') ∧ PT X e (rdT p C W e')
  | .v i, Γ, sc, W, fo, X, e, O, h => by
    simp only [chkE] at h
    split at h
    · simp only [Bool.and_eq_true, decide_eq_true_eq] at h
      exact both O (e_var (O.var h.1 h.2)) fun _ => rfl
    · cases h
  | .k d, Γ, sc, W, fo, X, e, O, h => by
    simp only [chkE] at h
    split at h
    · split at h
      · exact both O (e_val pe_non (fun _ => .non) fun _ _ => rfl) fun _ => rfl
      · have e := eq_of_beq h
        subst e
        exact both O (e_val pe_bl (fun _ => .bl _) fun _ _ => rfl) fun _ => rfl
      · have e := of_decide_eq_true h
        subst e
        exact both O (e_val pe_int (fun _ => .int _) fun _ _ => rfl) fun _ => rfl
      · have e := of_decide_eq_true h
        subst e
        exact both O (e_val pe_str (fun _ => .str _) fun _ _ => rfl) fun _ => rfl
      · cases h
    · cases h
  | .gc j d, Γ, sc, W, fo, X, e, O, h => by
    simp only [chkE] at h
    split at h
    · rename_i x pos
      simp only [Bool.and_eq_true] at h
      obtain ⟨h1, h2⟩ := h
      split at h2
      · rename_i y d' q
        simp only [Bool.and_eq_true, decide_eq_true_eq] at h2
        obtain ⟨rfl, h3⟩ := h2
        cases D.same_eq h3
        obtain ⟨q1, u, v, q2, q3, q4⟩ := O.gl.cst j _ _ q
        exact both O (e_val (pe_glob (glOk O.scope h1) q2 q3 (plainN_d q1).1) q4 fun _ _ => rfl) fun _ => rfl
      · cases h2
    · cases h
  | .fn _, Γ, sc, W, fo, X, e, O, h => by simp [chkE] at h
  | .tup l, Γ, sc, W, fo, X, e, O, h => by
    simp only [chkE] at h
    split at h
    · exact both O (e_tup (chkL_ok l O h)) fun _ => rfl
    · cases h
  | .lst l, Γ, sc, W, fo, X, e, O, h => by
    simp only [chkE] at h
    split at h
    · exact both O (e_lst (chkL_ok l O h)) fun _ => rfl
    · cases h
  | .o2 o a b, Γ, sc, W, fo, X, e, O, h => by
    simp only [chkE] at h
    split at h
    · simp only [Bool.and_eq_true] at h
      exact both O (e_o2 (chkE_ok a O h.1.2).1 (chkE_ok b O h.2).1 fun ta tb ha hb => pe_op (op_of O h.1.1) ha hb) fun _ => rfl
    · split at h
      · simp only [Bool.and_eq_true, Bool.not_eq_true'] at h
        obtain ⟨⟨⟨h1, h2⟩, h3⟩, h4⟩ := h
        obtain ⟨c1, c2⟩ := cmp_of O h1
        exact ⟨e_o2 (chkE_ok a O h3).1 (chkE_ok b O h4).1 fun ta tb ha hb => pe_cmpR c1 ha hb h2, t_o2 c2 (chkE_ok a O h3).1 (chkE_ok b O h4).1 fun ta tb ha hb => pt_cmpR c1 ha hb h2⟩
      · cases h
    · cases h
  | .ch o q a b c, Γ, sc, W, fo, X, e, O, h => by
    simp only [chkE] at h
    split at h
    · split at h
      · simp only [Bool.and_eq_true] at h
        obtain ⟨⟨⟨⟨⟨h1, h2⟩, h0⟩, h3⟩, h4⟩, h5⟩ := h
        rw [Bool.not_eq_true'] at h0
        obtain ⟨c1, c2⟩ := cmp_of O h1
        obtain ⟨d1, d2⟩ := cmp_of O h2
        exact both2 O (chkE_ok a O h3) (chkE_ok b O h4) (chkE_ok c O h5) c1 d1 h0
      · cases h
    · cases h
  | .neg a, Γ, sc, W, fo, X, e, O, h => by
    simp only [chkE] at h
    split at h
    · exact both O (e_neg (chkE_ok a O h).1) fun _ => rfl
    · cases h
  | .nt a, Γ, sc, W, fo, X, e, O, h => by
    simp only [chkE] at h
    split at h
    · exact ⟨e_nt (chkE_ok a O h).1 O.K, t_nt (chkE_ok a O h).2⟩
    · cases h
  | .an l, Γ, sc, W, fo, X, e, O, h => by
    simp only [chkE] at h
    split at h
    · obtain ⟨q1, q2, _, _⟩ := chkLN_ok l O h (pos := by assumption)
      exact ⟨q1, q2.pt⟩
    · cases h
  | .or l, Γ, sc, W, fo, X, e, O, h => by
    simp only [chkE] at h
    split at h
    · obtain ⟨_, _, q1, q2⟩ := chkLN_ok l O h (pos := by assumption)
      exact ⟨q1, q2.pt⟩
    · cases h
  | .ife c a b, Γ, sc, W, fo, X, e, O, h => by
    simp only [chkE] at h
    split at h
    · simp only [Bool.and_eq_true] at h
      exact ⟨e_ife (chkE_ok c O h.1.1).2 (chkE_ok a O h.1.2).1 (chkE_ok b O h.2).1, t_ife (chkE_ok c O h.1.1).2 (chkE_ok a O h.1.2).2 (chkE_ok b O h.2).2⟩
    · cases h
  | .ix a i, Γ, sc, W, fo, X, e, O, h => by
    simp only [chkE] at h
    split at h
    · simp only [Bool.and_eq_true, Bool.not_eq_true'] at h
      exact both O (e_ix O.K O.hu (chkE_ok a O h.1.2).1 (chkE_ok i O h.2).1 (plainIx h.1.1)) fun _ => rfl
    · cases h
  | .sl a lo hi, Γ, sc, W, fo, X, e, O, h => by
    simp only [chkE] at h
    split at h
    · simp only [Bool.and_eq_true] at h
      exact both O (e_sl O.K (chkE_ok a O h.1.1).1 (chkO_ok lo O h.1.2) (chkO_ok hi O h.2)) fun _ => rfl
    · cases h
  | .call f l, Γ, sc, W, fo, X, e, O, h => by
    simp only [chkE] at h
    split at h
    · rename_i x q es pos
      simp only [Bool.and_eq_true, decide_eq_true_eq] at h
      obtain ⟨⟨⟨h1, h2⟩, hh⟩, h3⟩ := h
      have hh : (Γ.gd || !Γ.hv f) = true := hh
      obtain ⟨g1, g2, g3⟩ := O.gl.fn f _ h2
      have hl := chkL_ok l O h3
      have hst := chkL_star h3
      cases es with
      | nil =>
        cases l with
        | nil => exact both O (e_call0 O (glOk O.scope h1) g1 g2 hh (plainN_d g3).1) fun _ => rfl
        | cons _ _ => simp [chkL] at h3
      | cons e0 es =>
        simp only [List.all_cons, Bool.and_eq_true] at hst
        exact both O (e_call O (glOk O.scope h1) g1 g2 hh hl (plainN_d g3).1 (star_cons hst.1) (star_any hst.2)) fun _ => rfl
    · cases h
  | .bi b l, Γ, sc, W, fo, X, e, O, h => by
    simp only [chkE] at h
    split at h
    · rename_i x0 q0 es pos0
      split at h
      · simp only [Bool.and_eq_true, decide_eq_true_eq] at h
        obtain ⟨⟨⟨⟨rfl, h1⟩, rfl⟩, h2⟩, h3⟩ := h
        have hst := chkL_star h3
        simp only [List.all_cons, Bool.and_eq_true] at hst
        exact both O (e_sset O (glOk O.scope h1) (glOk O.scope h2) (chkL_ok l O h3) (by rw [star_cons hst.1]; rfl)) fun _ => rfl
      · simp only [Bool.and_eq_true, decide_eq_true_eq] at h
        obtain ⟨⟨⟨⟨⟨h1, hh⟩, rfl⟩, h2⟩, h3⟩, h4⟩ := h
        have hl := chkL_ok l O h4
        have hst := chkL_star h4
        cases es with
        | nil => cases h3
        | cons e0 es =>
          simp only [List.all_cons, Bool.and_eq_true] at hst
          exact both O (e_bi hl fun ta ha => bi_of O h1 hh (glOk O.scope h2) ha (star_cons hst.1) (star_any hst.2)) fun _ => rfl
    · cases h
  | .isi a t, Γ, sc, W, fo, X, e, O, h => by
    simp only [chkE] at h
    split at h
    · split at h
      · simp only [Bool.and_eq_true, decide_eq_true_eq] at h
        obtain ⟨⟨⟨⟨⟨rfl, h1⟩, rfl⟩, h2⟩, h3⟩, h4⟩ := h
        exact both O (e_isi O.K (glOk O.scope h1) (O.mgb (by decide)) (glOk O.scope h2) (O.mgb (by cases t <;> decide)) (chkE_ok a O h4).1 (star_cons h3)) fun _ => rfl
      · cases h
    · cases h
  | .me m a l, Γ, sc, W, fo, X, e, O, h => by
    simp only [chkE] at h
    split at h
    · split at h
      · simp only [Bool.and_eq_true, Bool.not_eq_true', decide_eq_true_eq] at h
        obtain ⟨⟨⟨⟨⟨rfl, h1⟩, h2⟩, h3⟩, h4⟩, h5⟩ := h
        have hl := chkL_ok l O h5
        cases l with
        | nil => simp [chkL] at h5
        | cons b r =>
          cases r with
          | cons _ _ => simp [chkL] at h5
          | nil => exact both O (e_me rfl (chkE_ok a O h4).1 hl fun to t ho ht => pe_idx O.K O.hu ho ht (base_of h1) (few_one h3) h2 (by rw [star_cons h3]; rfl)) fun _ => rfl
      · cases h
    · cases h
  | .cv _ _, Γ, sc, W, fo, X, e, O, h => by simp [chkE] at h
  | .comp ws elt g, Γ, sc, W, fo, X, e, O, h => by
    simp only [chkE] at h
    split at h
    · rename_i x gs scope pos
      simp only [Bool.and_eq_true] at h
      obtain ⟨⟨h1, h2⟩, h3⟩ := h
      have ok := blkOk_by h1
      have okX : BlkOk X.N X.env.scope scope (ownOf N ws) := by rw [O.N, O.scope]; exact ok
      have he : ∀ s H Ca cl fp, PE (X.blk s H scope (compEnvC scope cl Ca X.env) fp) x (rdE p C WF elt) := fun s H Ca cl fp => (chkE_ok elt (O.blk ok.kind s H Ca cl fp) h2).1
      exact both O (chkG_ok g O ok.kind okX h3 he) fun _ => rfl
    · cases h
  | .dcomp ws ke ve (.two _ _ _ _ _ _ _), Γ, sc, W, fo, X, e, O, h => by
    simp only [chkE] at h
    split at h <;> simp at h
  | .dcomp ws ke ve (.one t s c), Γ, sc, W, fo, X, e, O, h => by
    simp only [chkE] at h
    split at h
    · rename_i x y gs scope pos
      simp only [Bool.and_eq_true] at h
      obtain ⟨⟨⟨⟨h1, h2⟩, h3⟩, _⟩, h4⟩ := h
      have ok := blkOk_by h1
      have okX : BlkOk X.N X.env.scope scope (ownOf N ws) := by rw [O.N, O.scope]; exact ok
      simp only [chkG] at h4
      split at h4
      · simp only [Bool.and_eq_true, decide_eq_true_eq, Bool.not_eq_true'] at h4
        obtain ⟨⟨⟨⟨⟨rfl, k1⟩, k2⟩, k3⟩, k4⟩, k5⟩ := h4
        have got := pe_dc (pos := pos) O.calm O.nd (chkS_ok s O k3 (b := false)) okX (fun s H Ca cl fp => (pgT_of (O.blk ok.kind s H Ca cl fp) k2).2) (fun s H Ca cl fp => chkC_ok c (O.blk ok.kind s H Ca cl fp) k5) (fun s H Ca cl fp => (chkE_ok ke (O.blk ok.kind s H Ca cl fp) h2).1) (fun s H Ca cl fp => (chkE_ok ve (O.blk ok.kind s H Ca cl fp) h3).1) (fun x => folded_of k4 x)
        rw [own_snd] at got
        refine both O (got.weak fun σ H Q q => dcomp1 (fun i hi => ?_) q) fun _ => rfl
        have := List.all_eq_true.mp k1 i hi
        simpa using this
      · cases h4
    · cases h
  | .bg i j, Γ, sc, W, fo, X, e, O, h => by
    simp only [chkE] at h
    split at h
    · simp only [Bool.and_eq_true, decide_eq_true_eq] at h
      obtain ⟨⟨h1, h2⟩, rfl⟩ := h
      exact both O (e_bg (O.var h1 h2) pe_int (plainIx rfl)) fun _ => rfl
    · cases h
  | .heard f c a, Γ, sc, W, fo, X, e, O, h => by
    simp only [chkE] at h
    split at h
    · simp only [Bool.and_eq_true, decide_eq_true_eq] at h
      obtain ⟨⟨⟨⟨⟨⟨h1, h2⟩, h3⟩, h4⟩, h5⟩, h6⟩, h7⟩ := h
      cases noArg_of h6
      exact both O (e_heard O (O.gl.hd f _ c h4) h1 h2 (glOk O.scope h3) (by rw [O.scope]; exact LamX.lamS_by h5) fun W' X' O' => (chkE_ok a O' h7).1) fun _ => rfl
    · cases h
theorem chkL_ok : ∀ (l : EL) {Γ : GMs} {sc : Scope} {W : WX} {fo : Str → Bool} {X : Cx} {es : List Expr}, XOk p Γ N C k W sc fo X → chkL N Γ l sc es = true → PA X es (rdL p C W l)
  | .nil, Γ, sc, W, fo, X, es, O, h => by
    simp only [chkL] at h
    split at h
    · exact l_nil
    · cases h
  | .cons e r, Γ, sc, W, fo, X, es, O, h => by
    simp only [chkL] at h
    split at h
    · simp only [Bool.and_eq_true] at h
      exact l_of_cons h.1.1 (chkE_ok e O h.1.2).1 (chkL_ok r O h.2)
    · cases h
theorem chkLN_ok : ∀ (l : EL) {Γ : GMs} {sc : Scope} {W : WX} {fo : Str → Bool} {X : Cx} {es : List Expr} {pos : Pos}, XOk p Γ N C k W sc fo X → chkLN N Γ l sc es = true →
    PE X (.BoolOp .And es pos) (rdX p W (evAn C l false)) ∧ PW X (.BoolOp .And es pos) (rdY p W (evAn C l true)) ∧ PE X (.BoolOp .Or es pos) (rdX p W (evOr C l false)) ∧ PW X (.BoolOp .Or es pos) (rdY p W (evOr C l true))
  | .nil, Γ, sc, W, fo, X, es, pos, O, h => by simp [chkLN] at h
  | .cons e .nil, Γ, sc, W, fo, X, es, pos, O, h => by
    simp only [chkLN] at h
    split at h
    · simp only [Bool.and_eq_true] at h
      obtain ⟨q1, q2⟩ := chkE_ok e O h.2
      exact ⟨e_an1 q1, t_an1 q2, e_or1 q1, t_or1 q2⟩
    · simp at h
    · cases h
  | .cons e (.cons e2 r), Γ, sc, W, fo, X, es, pos, O, h => by
    cases es with
    | nil => simp [chkLN] at h
    | cons x xs =>
      cases xs with
      | nil => simp [chkLN] at h
      | cons y ys =>
        have h : (true && chkE N Γ e sc x && chkLN N Γ (.cons e2 r) sc (y :: ys)) = true := h
        simp only [Bool.and_eq_true] at h
        obtain ⟨⟨_, h1⟩, h2⟩ := h
        obtain ⟨q1, q2⟩ := chkE_ok e O h1
        obtain ⟨r1, r2, r3, r4⟩ := chkLN_ok (.cons e2 r) O h2 (pos := pos)
        exact ⟨e_an O.K q1 r1, t_an q2 r2, e_or O.K q1 r3, t_or q2 r4⟩
theorem chkO_ok : ∀ (o : OE) {Γ : GMs} {sc : Scope} {W : WX} {fo : Str → Bool} {X : Cx} {e : Option Expr}, XOk p Γ N C k W sc fo X → chkO N Γ o sc e = true → PO X e (rdO p C W o)
  | .none, Γ, sc, W, fo, X, e, O, h => by
    simp only [chkO] at h
    split at h
    · exact o_none
    · cases h
  | .some e', Γ, sc, W, fo, X, e, O, h => by
    simp only [chkO] at h
    split at h
    · exact o_some (chkE_ok e' O h).1
    · cases h
theorem chkS_ok : ∀ (s : Src) {Γ : GMs} {sc : Scope} {W : WX} {fo : Str → Bool} {X : Cx} {tg e : Expr} {b : Bool}, XOk p Γ N C k W sc fo X → chkS N Γ s sc tg e = true → PI X tg e (rdI p C W b s)
  | .v i, Γ, sc, W, fo, X, tg, e, b, O, h => by
    simp only [chkS] at h
    split at h
    · simp only [Bool.and_eq_true, decide_eq_true_eq] at h
      exact i_v O.K (e_var (O.var h.1 h.2))
    · cases h
  | .e a, Γ, sc, W, fo, X, tg, e, b, O, h => by
    simp only [chkS, Bool.and_eq_true] at h
    exact i_e O.K (chkE_ok a O h.2).1
  | .rng l, Γ, sc, W, fo, X, tg, e, b, O, h => by
    simp only [chkS] at h
    split at h
    · simp only [Bool.and_eq_true, decide_eq_true_eq] at h
      obtain ⟨⟨⟨rfl, h1⟩, h2⟩, h3⟩ := h
      have hl := chkL_ok l O h2
      have hst := chkL_star h2
      split at h3
      · cases l with
        | nil => simp [chkL] at h2
        | cons a r =>
          cases r with
          | cons _ _ => simp [chkL] at h2
          | nil =>
            simp only [List.all_cons, Bool.and_eq_true] at hst
            exact i_rng1 (glOk O.scope h1) (O.mgb (by decide)) hl (star_cons hst.1)
      · cases l with
        | nil => simp [chkL] at h2
        | cons a r =>
          cases r with
          | nil => simp [chkL] at h2
          | cons c r =>
            cases r with
            | cons _ _ => simp [chkL] at h2
            | nil =>
              simp only [List.all_cons, Bool.and_eq_true] at hst
              exact i_rng2 (glOk O.scope h1) (O.mgb (by decide)) hl (by rw [star_cons hst.1, star_cons hst.2.1]; rfl) (by rw [star_cons hst.2.1]; rfl)
      · cases h3
    · cases h
  | .zip l, Γ, sc, W, fo, X, tg, e, b, O, h => by
    simp only [chkS] at h
    split at h
    · simp only [Bool.and_eq_true, decide_eq_true_eq] at h
      obtain ⟨⟨⟨rfl, h1⟩, h2⟩, h3⟩ := h
      have hl := chkL_ok l O h2
      have hst := chkL_star h2
      split at h3
      · cases l with
        | nil => simp [chkL] at h2
        | cons a r =>
          cases r with
          | nil => simp [chkL] at h2
          | cons c r =>
            cases r with
            | cons _ _ => simp [chkL] at h2
            | nil =>
              simp only [List.all_cons, Bool.and_eq_true] at hst
              exact i_zip O.K (glOk O.scope h1) (O.mgb (by decide)) hl (star_cons hst.1) (star_any (by simp [hst.2.1]))
      · cases h3
    · cases h
  | .enum a, Γ, sc, W, fo, X, tg, e, b, O, h => by
    simp only [chkS] at h
    split at h
    · simp only [Bool.and_eq_true, decide_eq_true_eq] at h
      obtain ⟨⟨⟨rfl, h1⟩, h2⟩, h3⟩ := h
      split at h2
      · simp only [Bool.and_eq_true] at h2
        split at h3
        · exact i_enum O.K (glOk O.scope h1) (O.mgb (by decide)) (l_of_cons h2.1 (chkE_ok a O h2.2).1 l_nil) (by rw [star_cons h2.1]; rfl)
        · cases h3
      · cases h2
    · cases h
theorem chkC_ok : ∀ (l : EL) {Γ : GMs} {sc : Scope} {W : WX} {fo : Str → Bool} {X : Cx} {es : List Expr}, XOk p Γ N C k W sc fo X → chkC N Γ l sc es = true → PTs X es (rdC p C W l)
  | .nil, Γ, sc, W, fo, X, es, O, h => by
    simp only [chkC] at h
    split at h
    · exact rdC_nil
    · cases h
  | .cons e .nil, Γ, sc, W, fo, X, es, O, h => by
    simp only [chkC] at h
    split at h
    · simp only [Bool.and_eq_true] at h
      exact rdC_one (chkE_ok e O h.2).2
    · cases h
  | .cons e (.cons _ _), Γ, sc, W, fo, X, es, O, h => by
    cases es with
    | nil => simp [chkC] at h
    | cons x xs => cases xs <;> simp [chkC] at h
theorem chkG_ok : ∀ (g : GL) {Γ : GMs} {sc : Scope} {W : WX} {fo : Str → Bool} {X : Cx} {gs : List Comprehension} {ws : List Nat} {scope : Scope} {elt : E} {x : Expr} {pos : Pos}, XOk p Γ N C k W sc fo X → scope.kind = .function → BlkOk X.N X.env.scope scope (ownOf N ws) → chkG N Γ ws g sc (relS scope sc) (foB scope) gs = true →
    (∀ s H Ca cl fp, PE (X.blk s H scope (compEnvC scope cl Ca X.env) fp) x (rdE p C WF elt)) → PE X (.ListComp x gs scope pos) (rdE p C W (.comp ws elt g))
  | .one t s c, Γ, sc, W, fo, X, gs, ws, scope, elt, x, pos, O, hk, ok, h, he => by
    simp only [chkG] at h
    split at h
    · simp only [Bool.and_eq_true, decide_eq_true_eq, Bool.not_eq_true'] at h
      obtain ⟨⟨⟨⟨⟨rfl, h1⟩, h2⟩, h3⟩, h4⟩, h5⟩ := h
      have := pe_lc (pos := pos) O.calm O.nd (chkS_ok s O h3 (b := false)) ok (fun s H Ca cl fp => (pgT_of (O.blk hk s H Ca cl fp) h2).2) (fun s H Ca cl fp => chkC_ok c (O.blk hk s H Ca cl fp) h5) he (fun x => folded_of h4 x)
      rw [own_snd] at this
      refine this.weak fun σ H Q q => comp1 (fun i hi => ?_) q
      have := List.all_eq_true.mp h1 i hi
      simpa using this
    · cases h
  | .two t s c ws2 t2 s2 c2, Γ, sc, W, fo, X, gs, ws, scope, elt, x, pos, O, hk, ok, h, he => by
    simp only [chkG] at h
    split at h
    · simp only [Bool.and_eq_true, decide_eq_true_eq, Bool.not_eq_true'] at h
      obtain ⟨⟨⟨⟨⟨⟨⟨⟨⟨⟨⟨⟨rfl, rfl⟩, h1⟩, h1b⟩, h1c⟩, h2⟩, h3⟩, h4⟩, h5⟩, h6⟩, h7⟩, h8⟩, h9⟩ := h
      have := pe_lc2 (pos := pos) (vs1 := ws2) O.calm O.nd (chkS_ok s O h3 (b := false)) ok (fun i hi => by
        rw [own_snd]
        have := List.all_eq_true.mp h1c i hi
        simpa using this) (fun s H Ca cl fp => (pgT_of (O.blk hk s H Ca cl fp) h2).2) (fun s H Ca cl fp => chkC_ok c (O.blk hk s H Ca cl fp) h5) (fun s H Ca cl fp => chkS_ok s2 (O.blk hk s H Ca cl fp) h7 (b := true)) (fun s H Ca cl fp => (pgT_of (O.blk hk s H Ca cl fp) h6).2)
        (fun s H Ca cl fp => chkC_ok c2 (O.blk hk s H Ca cl fp) h9) he (fun x => folded_of h4 x) (fun env x => folded_of h8 x)
      rw [own_snd] at this
      refine this.weak fun σ H Q q => comp2 (fun i hi => ?_) (fun i hi => ?_) q
      · have := List.all_eq_true.mp h1 i hi
        simpa using this
      · have := List.all_eq_true.mp h1b i hi
        simpa using this
    · cases h
end
end
end Wh

set_option maxHeartbeats 4000000
/-! Wh, part S: statements checked. -/
namespace Wh
open PySem PySem.Spec PyProof.Rows L2

def isCompE : Expr → Bool
  | .ListComp _ _ _ _ => true
  | .SetComp _ _ _ _ => true
  | .DictComp _ _ _ _ _ => true
  | _ => false
theorem sw_of {e : Expr} {t : Option Expr} {l : Nat} {env : PySem.Env} (h : isCompE e = false) : swapsWith e t l env = pure false := by
  cases e <;> first | rfl | cases h
theorem sws_of {e tg : Expr} {l : Nat} {env : PySem.Env} (h : isCompE e = false) : swapsWithSole [tg] e l env = pure false := by
  show swapsWith e (some tg) l env = _
  exact sw_of h
/-- a store that is no comprehension's own -/
def noSw (sc : Scope) (tg x : Expr) : Bool := !(isCompE x) || (match tg with
  | .Name y _ => !decide (sc.names.lookup y = some .local)
  | .Tuple _ _ _ => true
  | _ => false)
theorem sws_no0 {sc : Scope} {e tg : Expr} {l : Nat} {env : PySem.Env} (hs : env.scope = sc) (h : noSw sc tg e = true) : swapsWithSole [tg] e l env = pure false := by
  unfold noSw at h
  cases hc : isCompE e with
  | false => exact sws_of hc
  | true =>
    rw [hc] at h
    cases tg with
    | Name y q =>
      have h : (!decide (sc.names.lookup y = some .local)) = true := h
      have hk : (env.kindOf y == some NameKind.local) = false := by
        unfold Env.kindOf
        rw [hs]
        rw [Bool.not_eq_true', decide_eq_false_iff_not] at h
        rw [beq_eq_false_iff_ne]
        exact h
      cases e <;> first | (cases hc; done) | skip
      all_goals (unfold swapsWithSole swapsWith; simp only [hk, Bool.and_false, Bool.false_and])
    | Tuple es kk q => cases e <;> first | (cases hc; done) | rfl
    | _ => cases h
def isTupE : Expr → Bool
  | .Tuple _ _ _ => true
  | _ => false
theorem sws_name {x : Str} {q : Pos} {e : Expr} {env : PySem.Env} : swappedStores [.Name x q] e env = pure none := by cases e <;> rfl
theorem sws_tup {es : List Expr} {kk : Nat} {q : Pos} {e : Expr} {env : PySem.Env} (h : isTupE e = false) : swappedStores [.Tuple es kk q] e env = pure none := by cases e <;> first | rfl | cases h
/-- the names that stand to be stored from the right -/
def swF (sc : Scope) (line : Nat) : Expr → Option Str
  | .Name id pos => if sc.names.lookup id == some .local && pos.line == line then some id else none
  | _ => none
def swG (env : PySem.Env) (line : Nat) : Expr → Option Str
  | .Name id pos => if env.kindOf id == some .local && pos.line == line then some id else none
  | _ => none
theorem swGF {env : PySem.Env} {sc : Scope} (h : env.scope = sc) (l : Nat) : swG env l = swF sc l := by
  funext e
  cases e <;> first | rfl | (unfold swG swF Env.kindOf; rw [h])
def swNames (sc : Scope) (ts : List Expr) : List Str := ts.filterMap (swF sc ((ts.head?.map (·.pos.line)).getD 0))
theorem block_fun {env : PySem.Env} {sc : Scope} (h : env.scope = sc) (hk : sc.kind = .function) : env.blockKind = .function := by unfold Env.blockKind; rw [h, hk]; rfl
/-- stored as ever -/
def swNo (sc : Scope) (ts vs : List Expr) : Bool := vs.all notStar && (!(ts.length == 2 || ts.length == 3) || vs.length != ts.length || (swNames sc ts).length != ts.length || (swNames sc ts).eraseDups.length != (swNames sc ts).length || vs.all (foldedForSure 8))
theorem star_none {vs : List Expr} (h : vs.all notStar = true) : (vs.any fun | .Starred .. => true | _ => false) = false := by
  rw [List.any_eq_false]
  intro x hx
  have := List.all_eq_true.mp h x hx
  cases x <;> first | (simp; done) | cases this
theorem sws_no {sc : Scope} {env : PySem.Env} {ts vs : List Expr} {k1 k2 : Nat} {q1 q2 : Pos} (hs : env.scope = sc) (hk : sc.kind = .function) (h : swNo sc ts vs = true) : swappedStores [.Tuple ts k1 q1] (.Tuple vs k2 q2) env = pure none := by
  unfold swNo at h
  simp only [Bool.and_eq_true, Bool.or_eq_true] at h
  obtain ⟨h0, h⟩ := h
  have hn : ts.filterMap (swG env ((ts.head?.map (·.pos.line)).getD 0)) = swNames sc ts := by rw [swGF hs]; rfl
  show (if (!(ts.length == 2 || ts.length == 3) || vs.length != ts.length || env.blockKind != .function) = true then pure none else _) = _
  rw [block_fun hs hk]
  split
  · rfl
  · rename_i c
    show (if (vs.any fun | .Starred .. => true | _ => false) = true then pure none else _) = _
    rw [star_none h0, if_neg Bool.false_ne_true]
    show (if ((ts.filterMap (swG env ((ts.head?.map (·.pos.line)).getD 0))).length != ts.length || (ts.filterMap (swG env ((ts.head?.map (·.pos.line)).getD 0))).eraseDups.length != (ts.filterMap (swG env ((ts.head?.map (·.pos.line)).getD 0))).length) = true then pure none else if vs.all (foldedForSure 8) = true then pure none else _) = _
    rw [hn]
    split
    · rfl
    · rename_i c2
      split
      · rfl
      · rename_i c3
        exfalso
        simp only [Bool.or_eq_true, not_or, Bool.not_eq_true', bne_iff_ne, ne_eq, not_true_eq_false, or_false] at c c2
        rcases h with ((((h | h) | h) | h) | h)
        · exact c.1 (by simpa using h)
        · exact c.2 (by simpa using h)
        · exact c2.1 (by simpa using h)
        · exact c2.2 (by simpa using h)
        · exact c3 h
/-- two names stored from the right -/
def swYes (sc : Scope) (x y : Str) (qx qy : Pos) (a b : Expr) : Bool := decide (sc.names.lookup x = some .local) && decide (sc.names.lookup y = some .local) && qy.line == qx.line && !(x == y) && notStar a && notStar b && !([a, b].all (foldedForSure 8)) && !([a, b].all (constantsAlone 8))
theorem sws_yes {sc : Scope} {env : PySem.Env} {x y : Str} {qx qy : Pos} {a b : Expr} {k1 k2 : Nat} {q1 q2 : Pos} (hs : env.scope = sc) (hk : sc.kind = .function) (h : swYes sc x y qx qy a b = true) : swappedStores [.Tuple [.Name x qx, .Name y qy] k1 q1] (.Tuple [a, b] k2 q2) env = pure (some [x, y]) := by
  unfold swYes at h
  simp only [Bool.and_eq_true, Bool.not_eq_true', decide_eq_true_eq] at h
  obtain ⟨⟨⟨⟨⟨⟨⟨h1, h2⟩, h3⟩, h4⟩, h5⟩, h6⟩, h7⟩, h8⟩ := h
  have kx : env.kindOf x = some .local := by unfold Env.kindOf; rw [hs]; exact h1
  have ky : env.kindOf y = some .local := by unfold Env.kindOf; rw [hs]; exact h2
  have hst : ([a, b].any fun | .Starred .. => true | _ => false) = false := star_none (by simp [h5, h6])
  show (if (!(2 == 2 || 2 == 3) || 2 != 2 || env.blockKind != .function) = true then pure none else _) = _
  rw [block_fun hs hk, if_neg (by decide)]
  show (if ([a, b].any fun | .Starred .. => true | _ => false) = true then pure none else _) = _
  rw [hst, if_neg Bool.false_ne_true]
  have hn : [Expr.Name x qx, .Name y qy].filterMap (swG env qx.line) = [x, y] := by
    simp only [List.filterMap_cons, List.filterMap_nil, swG, kx, ky, beq_self_eq_true, h3, Bool.and_self, if_true]
  show (if (([Expr.Name x qx, .Name y qy].filterMap (swG env qx.line)).length != 2 || ([Expr.Name x qx, .Name y qy].filterMap (swG env qx.line)).eraseDups.length != ([Expr.Name x qx, .Name y qy].filterMap (swG env qx.line)).length) = true then pure none else if [a, b].all (foldedForSure 8) = true then pure none else (if [a, b].all (constantsAlone 8) = true then _ else pure (some ([Expr.Name x qx, .Name y qy].filterMap (swG env qx.line))))) = _
  rw [hn]
  have hd : ([x, y].eraseDups).length = 2 := by
    have h4' : (y == x) = false := by
      rw [beq_eq_false_iff_ne] at h4 ⊢
      exact fun z => h4 z.symm
    simp [List.eraseDups_cons, h4']
  rw [hd, if_neg (by exact Bool.false_ne_true), h7, if_neg Bool.false_ne_true, h8, if_neg Bool.false_ne_true]

/-- a store's order is the usual one -/
def asgB (sc : Scope) (tg x : Expr) : Bool := match tg, x with
  | .Tuple ts _ _, .Tuple vs _ _ => swNo sc ts vs
  | _, _ => true
mutual
def chkSt (N : List Str) (Γ : GMs) (sc : Scope) : S → Stmt → Bool
  | .asg t e, st => match st with
    | .Assign [tg] x _ => (match e, t, tg with
      | .v i, .n j, .Name y _ => chkE N Γ (.v i) sc x && !(isCompE x) && chkT N (sc) (fun _ => true) (.n j) tg
      | .comp ws elt g, .n j, .Name y py => (match x with
        | .ListComp z gs scope pos => decide (N[j]? = some y) && decide (sc.names.lookup y = some .local) && py.line == pos.line && !(scope.names.any fun (n, k) => n == y && (k == .local || k == .cell)) &&
            blkC N sc scope (ownOf N ws) && chkE N Γ elt (relS scope sc) z && chkG N Γ ws g sc (relS scope sc) (foB scope) gs
        | _ => false) || (noSw sc tg x && chkE N Γ e sc x && chkT N sc (fun _ => true) t tg && asgB sc tg x)
      | .dcomp ws ke ve (.one t1 s1 c1), .n j, .Name y py => (match x with
        | .DictComp u z gs scope pos => decide (N[j]? = some y) && decide (sc.names.lookup y = some .local) && py.line == pos.line && !(scope.names.any fun (n, k) => n == y && (k == .local || k == .cell)) &&
            blkC N sc scope (ownOf N ws) && chkE N Γ ke (relS scope sc) u && chkE N Γ ve (relS scope sc) z && chkG N Γ ws (.one t1 s1 c1) sc (relS scope sc) (foB scope) gs
        | _ => false) || (noSw sc tg x && chkE N Γ e sc x && chkT N sc (fun _ => true) t tg && asgB sc tg x)
      | .tup (.cons a (.cons b .nil)), .tup [i, j], .Tuple [.Name y qy, .Name z qz] _ _ => (match x with
        | .Tuple [u, v] _ _ => decide (N[i]? = some y) && decide (N[j]? = some z) && chkE N Γ a sc u && chkE N Γ b sc v && notStar u && notStar v && (swYes sc y z qy qz u v || (swNo sc [.Name y qy, .Name z qz] [u, v] && chkT N sc (fun _ => true) t tg))
        | _ => false)
      | _, _, _ => noSw sc tg x && (match t with | .n _ => !e.isV | _ => true) && chkE N Γ e sc x && chkT N sc (fun _ => true) t tg && asgB sc tg x)
    | _ => false
  | .aug i o e, st => match st with
    | .AugAssign (.Name x _) op y _ => decide (N[i]? = some x) && locB sc x && chkE N Γ e sc y && (match o, op with
      | .add, .Add => true
      | .sub, .Sub => true
      | _, _ => false)
    | _ => false
  | .mut m x path args, st => match st with
    | .Expr (.Call (.Attribute o nm apos) [e] [] cpos) _ => (match args with
      | .cons a .nil => notStar e && chkE N Γ a sc e && (apos.endLine == cpos.line) && (match m, path with
        | .append, .nil => decide (nm = Str.ofString "append") && chkE N Γ (.v x) sc o
        | .extend, .nil => decide (nm = Str.ofString "extend") && chkE N Γ (.v x) sc o
        | .append, .cons p .nil => decide (nm = Str.ofString "append") && (match o with
          | .Subscript oo ii _ => chkE N Γ (.v x) sc oo && !(isSlice ii) && chkE N Γ p sc ii
          | _ => false)
        | _, _ => false)
      | _ => false)
    | _ => false
  | .ret e, st => match st with
    | .Return (some x) _ => chkE N Γ e sc x
    | _ => false
  | .retN, st => match st with
    | .Return none _ => true
    | _ => false
  | .ex e, st => match st with
    | .Expr x _ => !(isCompE x) && chkE N Γ e sc x
    | _ => false
  | .ite c a b, st => match st with
    | .If x y z _ => chkE N Γ c sc x && chkSL N Γ sc a y && chkSL N Γ sc b z
    | _ => false
  | .for_ t s b, st => match st with
    | .For tg it y [] _ => chkT N sc (fun _ => true) t tg && chkS N Γ s sc tg it && !(isSetE it) && chkSL N Γ sc b y
    | _ => false
  | .whl c b, st => match st with
    | .While x y [] _ => chkE N Γ c sc x && chkSL N Γ sc b y
    | _ => false
  | .brk, st => match st with
    | .Break _ => true
    | _ => false
  | .cnt, st => match st with
    | .Continue _ => true
    | _ => false
  | .pas, st => match st with
    | .Pass _ => true
    | _ => false
  | .raise c args, st => match st with
    | .Raise (some (.Call (.Name x _) [] [] _)) none _ => glB sc x && decide (Γ.exc c = some x) && (match args with | .nil => true | _ => false)
    | _ => false
  | .bset i j e, st => match st with
    | .Assign [.Subscript (.Name x _) (.Constant (.int n) _ _) _] y _ => decide (N[i]? = some x) && visB sc x && decide (n = (j : Int)) && !(isCompE y) && chkE N Γ e sc y
    | _ => false
  | .baug i j e, st => match st with
    | .AugAssign (.Subscript (.Name x _) (.Constant (.int n) _ _) _) .Add y _ => decide (N[i]? = some x) && visB sc x && decide (n = (j : Int)) && chkE N Γ e sc y
    | _ => false
def chkSL (N : List Str) (Γ : GMs) (sc : Scope) : SL → List Stmt → Bool
  | .nil, ss => match ss with
    | [] => true
    | _ => false
  | .cons s r, ss => match ss with
    | x :: xs => chkSt N Γ sc s x && chkSL N Γ sc r xs
    | [] => false
end
end Wh

set_option maxHeartbeats 4000000
/-! Wh, part Ss: statements that are checked read as they run. -/
namespace Wh
open PySem PySem.Spec PyProof.Rows L2

section
variable {p : Pl} {Γ : GMs} {N : List Str} {C : Cs} {k : Nat} {W : WX} {sc : Scope} {X : Cx} {Wb : Nat} {lk : List Nat}
abbrev XO (p : Pl) (Γ : GMs) (N : List Str) (C : Cs) (k : Nat) (W : WX) (sc : Scope) (X : Cx) : Prop := XOk p Γ N C k W sc (fun _ => true) X
theorem chkT_form {fo : Str → Bool} {t : Tg} {tg : Expr} (h : chkT N sc fo t tg = true) : (∃ i x q, t = .n i ∧ tg = .Name x q) ∨ ∃ is es kk q, t = .tup is ∧ tg = .Tuple es kk q := by
  unfold chkT at h
  split at h
  · exact .inl ⟨_, _, _, rfl, rfl⟩
  · exact .inr ⟨_, _, _, _, rfl, rfl⟩
  · cases h
/-- name = [..] -/
theorem set_comp (O : XO p Γ N C k W sc X) {ws : List Nat} {elt : E} {g : GL} {j : Nat} {y : Str} {py pos spos : Pos} {z : Expr} {gs : List Comprehension} {scope : Scope} (h1 : N[j]? = some y) (h2 : sc.names.lookup y = some .local) (h3 : (py.line == pos.line) = true) (h4 : (scope.names.any fun (n, k) => n == y && (k == .local || k == .cell)) = false)
    (h5 : blkC N sc scope (ownOf N ws) = true) (h6 : chkE N Γ elt (relS scope sc) z = true) (h7 : chkG N Γ ws g sc (relS scope sc) (foB scope) gs = true) : PS X (.Assign [.Name y py] (.ListComp z gs scope pos) spos) (tAsg (rdE p C W (.comp ws elt g)) (gName j)) := by
  have ok := blkOk_by h5
  have okX : BlkOk X.N X.env.scope scope (ownOf N ws) := by rw [O.N, O.scope]; exact ok
  have he : ∀ s H Ca cl fp, PE (X.blk s H scope (compEnvC scope cl Ca X.env) fp) z (rdE p C WF elt) := fun s H Ca cl fp => (chkE_ok elt (O.blk ok.kind s H Ca cl fp) h6).1
  have ly : X.env.scope.names.lookup y = some .local := by rw [O.scope]; exact h2
  have hk : X.env.scope.kind = .function := by rw [O.scope]; exact O.kind
  have hsw : swapsWith (.ListComp z gs scope pos) (some (.Name y py)) spos.line X.env = pure true := sw_true hk ly h3 h4
  cases g with
  | one t s c =>
    simp only [chkG] at h7
    split at h7
    · simp only [Bool.and_eq_true, decide_eq_true_eq, Bool.not_eq_true'] at h7
      obtain ⟨⟨⟨⟨⟨rfl, g1⟩, g2⟩, g3⟩, g4⟩, g5⟩ := h7
      have := ps_setLc O.calm O.nd (O.nm h1).1 ly hsw (chkS_ok s O g3 (b := false)) okX (fun s H Ca cl fp => (pgT_of (O.blk ok.kind s H Ca cl fp) g2).2) (fun s H Ca cl fp => chkC_ok c (O.blk ok.kind s H Ca cl fp) g5) he (fun x => folded_of g4 x)
      rw [own_snd] at this
      refine this.weak fun D σ H q => comp1 (fun i hi => ?_) q
      have := List.all_eq_true.mp g1 i hi
      simpa using this
    · cases h7
  | two t s c ws2 t2 s2 c2 =>
    simp only [chkG] at h7
    split at h7
    · simp only [Bool.and_eq_true, decide_eq_true_eq, Bool.not_eq_true'] at h7
      obtain ⟨⟨⟨⟨⟨⟨⟨⟨⟨⟨⟨⟨rfl, rfl⟩, g1⟩, g1b⟩, g1c⟩, g2⟩, g3⟩, g4⟩, g5⟩, g6⟩, g7⟩, g8⟩, g9⟩ := h7
      have := ps_setLc2 (vs1 := ws2) O.calm O.nd (O.nm h1).1 ly hsw (chkS_ok s O g3 (b := false)) okX (fun i hi => by
        rw [own_snd]
        have := List.all_eq_true.mp g1c i hi
        simpa using this) (fun s H Ca cl fp => (pgT_of (O.blk ok.kind s H Ca cl fp) g2).2) (fun s H Ca cl fp => chkC_ok c (O.blk ok.kind s H Ca cl fp) g5) (fun s H Ca cl fp => chkS_ok s2 (O.blk ok.kind s H Ca cl fp) g7 (b := true)) (fun s H Ca cl fp => (pgT_of (O.blk ok.kind s H Ca cl fp) g6).2)
        (fun s H Ca cl fp => chkC_ok c2 (O.blk ok.kind s H Ca cl fp) g9) he (fun x => folded_of g4 x) (fun env x => folded_of g8 x)
      rw [own_snd] at this
      refine this.weak fun D σ H q => comp2 (fun i hi => ?_) (fun i hi => ?_) q
      · have := List.all_eq_true.mp g1 i hi
        simpa using this
      · have := List.all_eq_true.mp g1b i hi
        simpa using this
    · cases h7
/-- name = {..}, as the library has it for lists -/
theorem ps_setD {i : Nat} {y : Str} {yp at_ sp : Pos} {ke ve tg it : Expr} {fs : List Expr} {scope : Scope} {own : List (Str × Nat)} {wi : TI} {g : TG} {tt : TT} {tk tv : TE} (calm : X.calm = true) (nd : X.N.Nodup) (hy : X.N[i]? = some y) (loc : X.env.scope.names.lookup y = some .local)
    (sw : swapsWith (.DictComp ke ve [⟨tg, it, fs, 0⟩] scope at_) (some (.Name y yp)) sp.line X.env = pure true) (hi : PI X tg it wi) (ok : BlkOk X.N X.env.scope scope own) (hg : ∀ s H Ca cl fp, PG (X.blk s H scope (compEnvC scope cl Ca X.env) fp) tg g) (ht : ∀ s H Ca cl fp, PTs (X.blk s H scope (compEnvC scope cl Ca X.env) fp) fs tt)
    (hk : ∀ s H Ca cl fp, PE (X.blk s H scope (compEnvC scope cl Ca X.env) fp) ke tk) (hv : ∀ s H Ca cl fp, PE (X.blk s H scope (compEnvC scope cl Ca X.env) fp) ve tv) (hs : ∀ x, foldedSetIterable it X.env x = pure x) :
    PS X (.Assign [.Name y yp] (.DictComp ke ve [⟨tg, it, fs, 0⟩] scope at_) sp) (tAsg (tDc wi g tt tk tv (own.map (·.2))) (gName i)) := by
  refine ⟨fun pins s σ H D I hh => ?_⟩
  have hh : tDc wi g tt tk tv (own.map (·.2)) σ H (fun x H1 => gName i x σ H1 D.nx) := hh
  rw [exec_Assign_Name_used _ _ _ _ sw]
  refine wpAny_bind (wpAny_standAt (wpAny_bind (wpAny_bind (thn (dc_core (Qf := fun _ t => SP X pins D .next t) (use := some (assign (.Name y yp) X.env)) calm nd I hi ok hg ht hk hv hs hh fun L Ca s1 m H1 I1 q hn fr => ?_) fun _ t hq => wpAny_pure (wpAny_pure hq)))))
  obtain ⟨f0, f1, f2, f3, f4, f5⟩ := fr
  show wpAny _ _ (assign (.Name y yp) X.env (.ref L)) _ _ _
  refine wpAny_assign_Name (store_ok2 (v := V.ref L) I1 nd hy (.inl loc) rfl (fun s2 I2 ⟨a, sb, ha⟩ => ?_) (.inr loc))
  have ne : Ca ≠ a := ha.elim (fun z => z ▸ f1) fun z e => f4 y a z e.symm
  exact ⟨m, hn.sameBut sb ne, fun h3 sb3 => ⟨_, H1, I2.turned (t' := s2.toks) (fun b o hb e => (sb3.2 b hb).trans e) f0 f1 f3 f4 f5, q⟩⟩
theorem sw_dct {ke ve : Expr} {gs : List Comprehension} {scope : Scope} {pos py : Pos} {y : Str} {l : Nat} {env : PySem.Env} (hk : env.scope.kind = .function) (hy : env.scope.names.lookup y = some .local) (hl : (py.line == pos.line) = true)
    (ha : (scope.names.any fun (n, k) => n == y && (k == .local || k == .cell)) = false) : swapsWith (.DictComp ke ve gs scope pos) (some (.Name y py)) l env = pure true := by
  have k1 : env.kindOf y = some .local := hy
  have k2 : env.blockKind = .function := block_fun rfl hk
  unfold swapsWith
  simp only [k2, k1, ha, Expr.pos, hl]
  rfl
theorem set_dcomp (O : XO p Γ N C k W sc X) {ws : List Nat} {ke ve : E} {t : Tg} {s : Src} {c : EL} {j : Nat} {y : Str} {py pos spos : Pos} {u z : Expr} {gs : List Comprehension} {scope : Scope} (h1 : N[j]? = some y) (h2 : sc.names.lookup y = some .local) (h3 : (py.line == pos.line) = true) (h4 : (scope.names.any fun (n, k) => n == y && (k == .local || k == .cell)) = false)
    (h5 : blkC N sc scope (ownOf N ws) = true) (h6 : chkE N Γ ke (relS scope sc) u = true) (h8 : chkE N Γ ve (relS scope sc) z = true) (h7 : chkG N Γ ws (.one t s c) sc (relS scope sc) (foB scope) gs = true) : PS X (.Assign [.Name y py] (.DictComp u z gs scope pos) spos) (tAsg (rdE p C W (.dcomp ws ke ve (.one t s c))) (gName j)) := by
  have ok := blkOk_by h5
  have okX : BlkOk X.N X.env.scope scope (ownOf N ws) := by rw [O.N, O.scope]; exact ok
  have ly : X.env.scope.names.lookup y = some .local := by rw [O.scope]; exact h2
  have hk : X.env.scope.kind = .function := by rw [O.scope]; exact O.kind
  simp only [chkG] at h7
  split at h7
  · simp only [Bool.and_eq_true, decide_eq_true_eq, Bool.not_eq_true'] at h7
    obtain ⟨⟨⟨⟨⟨rfl, g1⟩, g2⟩, g3⟩, g4⟩, g5⟩ := h7
    have got := ps_setD (sp := spos) O.calm O.nd (O.nm h1).1 ly (sw_dct hk ly h3 h4) (chkS_ok s O g3 (b := false)) okX (fun s H Ca cl fp => (pgT_of (O.blk ok.kind s H Ca cl fp) g2).2) (fun s H Ca cl fp => chkC_ok c (O.blk ok.kind s H Ca cl fp) g5)
      (fun s H Ca cl fp => (chkE_ok ke (O.blk ok.kind s H Ca cl fp) h6).1) (fun s H Ca cl fp => (chkE_ok ve (O.blk ok.kind s H Ca cl fp) h8).1) (fun x => folded_of g4 x)
    rw [own_snd] at got
    refine got.weak fun D σ H q => dcomp1 (fun i hi => ?_) q
    have := List.all_eq_true.mp g1 i hi
    simpa using this
  · cases h7
theorem asg_any (O : XO p Γ N C k W sc X) {tg x : Expr} {t : Tg} {e : E} {pos : Pos} (hv : (match t with | .n _ => e.isV | _ => false) = false) (h1 : noSw sc tg x = true) (h2 : PE X x (rdE p C W e)) (h3 : chkT N sc (fun _ => true) t tg = true) (h4 : asgB sc tg x = true) : PS X (.Assign [tg] x pos) (rdS p C W Wb (.asg t e) lk) := by
  refine s_asg hv O.K (ps_asg h2 (pgT_of O h3).1 (sws_no0 O.scope h1) ?_ ?_)
  · rcases chkT_form h3 with ⟨i, y, q, rfl, rfl⟩ | ⟨is, es, kk, q, rfl, rfl⟩
    · exact sws_name
    · cases hx : isTupE x with
      | false => exact sws_tup hx
      | true =>
        cases x <;> first | cases hx | skip
        exact sws_no O.scope O.kind h4
  · rcases chkT_form h3 with ⟨i, y, q, rfl, rfl⟩ | ⟨is, es, kk, q, rfl, rfl⟩ <;> rfl
theorem asg_ok (O : XO p Γ N C k W sc X) {t : Tg} {e : E} {st : Stmt} (h : chkSt N Γ sc (.asg t e) st = true) : PS X st (rdS p C W Wb (.asg t e) lk) := by
  simp only [chkSt] at h
  split at h
  · rename_i tg x pos
    split at h
    · rename_i i j y q
      simp only [Bool.and_eq_true, Bool.not_eq_true'] at h
      obtain ⟨⟨h1, h2⟩, h3⟩ := h
      have h1 : chkE N Γ (.v i) sc x = true := h1
      have hp : PE X x (tVar i) := by
        simp only [chkE] at h1
        split at h1
        · simp only [Bool.and_eq_true, decide_eq_true_eq] at h1
          exact O.var h1.1 h1.2
        · cases h1
      exact s_asgv hp fun te he => ps_asg he (pgT_of O h3).1 (sws_of h2) sws_name rfl
    · rename_i ws elt g j y py
      rcases Bool.or_eq_true_iff.mp h with h | h
      rotate_left
      · simp only [Bool.and_eq_true] at h
        obtain ⟨⟨⟨h1, h2⟩, h3⟩, h4⟩ := h
        exact asg_any O rfl h1 (chkE_ok _ O h2).1 h3 h4
      split at h
      · rename_i z gs scope pos2
        simp only [Bool.and_eq_true, Bool.not_eq_true', decide_eq_true_eq] at h
        obtain ⟨⟨⟨⟨⟨⟨h1, h2⟩, h3⟩, h4⟩, h5⟩, h6⟩, h7⟩ := h
        exact s_asg rfl O.K (set_comp O h1 h2 h3 h4 h5 h6 h7)
      · cases h
    · rename_i ws ke ve t1 s1 c1 j y py
      rcases Bool.or_eq_true_iff.mp h with h | h
      rotate_left
      · simp only [Bool.and_eq_true] at h
        obtain ⟨⟨⟨h1, h2⟩, h3⟩, h4⟩ := h
        exact asg_any O rfl h1 (chkE_ok _ O h2).1 h3 h4
      split at h
      · rename_i u z gs scope pos2
        simp only [Bool.and_eq_true, Bool.not_eq_true', decide_eq_true_eq] at h
        obtain ⟨⟨⟨⟨⟨⟨⟨h1, h2⟩, h3⟩, h4⟩, h5⟩, h6⟩, h8⟩, h7⟩ := h
        exact s_asg rfl O.K (set_dcomp O h1 h2 h3 h4 h5 h6 h8 h7)
      · cases h
    · rename_i a b i j y qy z qz kk pp
      split at h
      · rename_i u v k2 p2
        simp only [Bool.and_eq_true, Bool.or_eq_true, decide_eq_true_eq] at h
        obtain ⟨⟨⟨⟨⟨⟨h1, h2⟩, h3⟩, h4⟩, h5⟩, h6⟩, h7⟩ := h
        have ha : PA X [u, v] (rdL p C W (.cons a (.cons b .nil))) := l_of_cons h5 (chkE_ok a O h3).1 (l_of_cons h6 (chkE_ok b O h4).1 l_nil)
        rcases h7 with h7 | ⟨h7, h8⟩
        · refine s_par O.K ha fun ta hta => ?_
          have hs := sws_yes (k1 := kk) (k2 := k2) (q1 := pp) (q2 := p2) O.scope O.kind h7
          unfold swYes at h7
          simp only [Bool.and_eq_true, Bool.not_eq_true', decide_eq_true_eq] at h7
          obtain ⟨⟨⟨⟨⟨⟨⟨g1, g2⟩, _⟩, g4⟩, _⟩, _⟩, _⟩, _⟩ := h7
          have hij : i ≠ j := fun z => by
            rw [z, h2] at h1
            have e : _ = y := Option.some.inj h1
            rw [e] at g4
            simp at g4
          exact ps_par O.calm O.nd (O.nm h1).1 (O.nm h2).1 hij (by rw [O.scope]; exact g1) (by rw [O.scope]; exact g2) hta hs rfl
        · exact asg_any O rfl rfl (e_tup ha) h8 h7
      · cases h
    · simp only [Bool.and_eq_true] at h
      obtain ⟨⟨⟨⟨h1, h2⟩, h3⟩, h4⟩, h5⟩ := h
      exact asg_any O (by cases t <;> first | simpa using h2 | rfl) h1 (chkE_ok e O h3).1 h4 h5
  · cases h
theorem sws_sub {o i : Expr} {q : Pos} {env : PySem.Env} (e : Expr) : swappedStores [.Subscript o i q] e env = pure none := by cases e <;> rfl
theorem var_ok (O : XO p Γ N C k W sc X) {i : Nat} {x : Expr} (h : chkE N Γ (.v i) sc x = true) : PE X x (tVar i) ∧ ∀ nm, attributeBase x nm X.env (eval x X.env) = eval x X.env := by
  simp only [chkE] at h
  split at h
  · simp only [Bool.and_eq_true, decide_eq_true_eq] at h
    exact ⟨O.var h.1 h.2, fun _ => rfl⟩
  · cases h
theorem few_ok {e : Expr} {cpos : Pos} (h : notStar e = true) : ((backTo cpos (starEach [e] X.env)).all (fun x => !x.1) && (backToKw cpos (keywordEach [] X.env)).all (fun x => x.1.isSome)
      && decide (([e] : List Expr).length + ([] : List Keyword).length + (if ([] : List Keyword).isEmpty then 0 else 1) < 30)) = true := by
  rw [star_cons h]
  rfl
theorem mut_ok (O : XO p Γ N C k W sc X) {m : Mu} {x : Nat} {path args : EL} {st : Stmt} (h : chkSt N Γ sc (.mut m x path args) st = true) : PS X st (rdS p C W Wb (.mut m x path args) lk) := by
  simp only [chkSt] at h
  split at h
  · rename_i o nm apos e cpos pos
    split at h
    · rename_i a
      simp only [Bool.and_eq_true] at h
      obtain ⟨⟨⟨h1, h2⟩, h3⟩, h4⟩ := h
      have ha : PA X [e] (rdL p C W (.cons a .nil)) := l_of_cons h1 (chkE_ok a O h2).1 l_nil
      split at h4
      · simp only [Bool.and_eq_true, decide_eq_true_eq] at h4
        obtain ⟨rfl, h5⟩ := h4
        obtain ⟨g1, g2⟩ := var_ok O h5
        exact s_append g1 ha (fun to t ho ht => pe_bm F.plainAttrs_list F.slot_list_append F.type_list_append mt_append ho ht (g2 _) (few_ok h1) h3 (star_cons h1) rfl) rfl
      · simp only [Bool.and_eq_true, decide_eq_true_eq] at h4
        obtain ⟨rfl, h5⟩ := h4
        obtain ⟨g1, g2⟩ := var_ok O h5
        exact s_extend g1 ha (fun to t ho ht => pe_bm F.plainAttrs_list F.slot_list_extend F.type_list_extend mt_extend ho ht (g2 _) (few_ok h1) h3 (star_cons h1) rfl) rfl
      · simp only [Bool.and_eq_true, decide_eq_true_eq] at h4
        obtain ⟨rfl, h5⟩ := h4
        split at h5
        · simp only [Bool.and_eq_true, Bool.not_eq_true'] at h5
          obtain ⟨⟨h5, h6⟩, h7⟩ := h5
          obtain ⟨g1, g2⟩ := var_ok O h5
          exact s_append1 (chkE_ok _ O h7).1 (fun ti hi => pe_ix ix_list g1 hi (plainIx h6)) ha (fun to t ho ht => pe_bm F.plainAttrs_list F.slot_list_append F.type_list_append mt_append ho ht rfl (few_ok h1) h3 (star_cons h1) rfl) rfl
        · cases h5
      · cases h4
    · cases h
  · cases h
end
section
variable {p : Pl} {Γ : GMs} {N : List Str} {C : Cs} {k : Nat} {W : WX} {sc : Scope} {X : Cx} {Wb : Nat}
mutual
theorem chkSt_ok (O : XO p Γ N C k W sc X) : ∀ (s : S) {st : Stmt} {lk : List Nat}, chkSt N Γ sc s st = true → PS X st (rdS p C W Wb s lk)
  | .asg t e, st, lk, h => asg_ok O h
  | .mut m x path args, st, lk, h => mut_ok O h
  | .aug i o e, st, lk, h => by
    simp only [chkSt] at h
    split at h
    · rename_i x _ op y _
      simp only [Bool.and_eq_true, decide_eq_true_eq] at h
      obtain ⟨⟨⟨h1, h2⟩, h3⟩, h4⟩ := h
      have hx : Loc X.env.scope x := by rw [O.scope]; exact locOk h2
      split at h4
      · exact s_aug (f := fun a b => a + b) (fun a b fa fb z q => by cases q; rfl) (chkE_ok e O h3).1 fun te he => ps_aug O.nd (O.nm h1).1 hx he ip_add (.inl (O.fnx _ rfl))
      · exact s_aug (f := fun a b => a - b) (fun a b fa fb z q => by cases q; rfl) (chkE_ok e O h3).1 fun te he => ps_aug O.nd (O.nm h1).1 hx he ip_sub (.inl (O.fnx _ rfl))
      · cases h4
    · cases h
  | .bset i j e, st, lk, h => by
    simp only [chkSt] at h
    split at h
    · simp only [Bool.and_eq_true, Bool.not_eq_true', decide_eq_true_eq] at h
      obtain ⟨⟨⟨⟨h1, h2⟩, rfl⟩, h3⟩, h4⟩ := h
      exact s_bset (chkE_ok e O h4).1 (O.var h1 h2) pe_int fun te to ti he ho hi => ps_asg he (pg_sub ho hi set_list) (sws_of h3) (sws_sub _) rfl
    · cases h
  | .baug i j e, st, lk, h => by
    simp only [chkSt] at h
    split at h
    · simp only [Bool.and_eq_true, decide_eq_true_eq] at h
      obtain ⟨⟨⟨h1, h2⟩, rfl⟩, h4⟩ := h
      exact s_baug (chkE_ok e O h4).1 (O.var h1 h2) pe_int fun te to ti he ho hi => ps_augS ho hi pget_lst he ip_add set_list
    · cases h
  | .ret e, st, lk, h => by
    simp only [chkSt] at h
    split at h
    · cases hv : e.isV with
      | false => exact s_ret hv (chkE_ok e O h).1
      | true =>
        cases e <;> first | cases hv | skip
        exact s_retv (var_ok O h).1
    · cases h
  | .retN, st, lk, h => by
    simp only [chkSt] at h
    split at h
    · exact s_retN
    · cases h
  | .ex e, st, lk, h => by
    simp only [chkSt] at h
    split at h
    · simp only [Bool.and_eq_true, Bool.not_eq_true'] at h
      exact s_ex (chkE_ok e O h.2).1 (sw_of h.1)
    · cases h
  | .ite c a b, st, lk, h => by
    simp only [chkSt] at h
    split at h
    · simp only [Bool.and_eq_true] at h
      exact s_ite (chkE_ok c O h.1.1).2 (chkSL_ok O a h.1.2) (chkSL_ok O b h.2)
    · cases h
  | .for_ t s b, st, lk, h => by
    simp only [chkSt] at h
    split at h
    · rename_i tg it y pos
      simp only [Bool.and_eq_true, Bool.not_eq_true'] at h
      obtain ⟨⟨⟨h1, h2⟩, h3⟩, h4⟩ := h
      have pf : ∀ wi tb, PI X tg it wi → PSs X y tb → PS X (.For tg it y [] pos) (tFor wi (gT X.K t) tb) := fun wi tb hi hb => ps_for O.pass O.calm hi (pgT_of O h1).1 hb (fun x => folded_of h3 x)
      cases s with
      | v i =>
        have hp : PE X it (tVar i) := by
          simp only [chkS] at h2
          split at h2
          · simp only [Bool.and_eq_true, decide_eq_true_eq] at h2
            exact O.var h2.1 h2.2
          · cases h2
        exact s_forv O.K (pi_sq hp) (chkSL_ok O b h4) pf
      | e a => exact s_for (fun i z => by cases z) O.K (chkS_ok _ O h2) (chkSL_ok O b h4) pf
      | rng a => exact s_for (fun i z => by cases z) O.K (chkS_ok _ O h2) (chkSL_ok O b h4) pf
      | zip a => exact s_for (fun i z => by cases z) O.K (chkS_ok _ O h2) (chkSL_ok O b h4) pf
      | enum a => exact s_for (fun i z => by cases z) O.K (chkS_ok _ O h2) (chkSL_ok O b h4) pf
    · cases h
  | .whl c b, st, lk, h => by
    simp only [chkSt] at h
    split at h
    · simp only [Bool.and_eq_true] at h
      exact s_whl O.pass (chkE_ok c O h.1).2 (chkSL_ok O b h.2)
    · cases h
  | .brk, st, lk, h => by
    simp only [chkSt] at h
    split at h
    · exact s_brk
    · cases h
  | .cnt, st, lk, h => by
    simp only [chkSt] at h
    split at h
    · exact s_cnt
    · cases h
  | .pas, st, lk, h => by
    simp only [chkSt] at h
    split at h
    · exact s_pas
    · cases h
  | .raise c args, st, lk, h => by
    simp only [chkSt] at h
    split at h
    · simp only [Bool.and_eq_true, decide_eq_true_eq] at h
      obtain ⟨⟨h1, h2⟩, h3⟩ := h
      cases args with
      | cons _ _ => cases h3
      | nil =>
        obtain ⟨g1, g2⟩ := O.gl.exc c _ h2
        exact s_raise O.K O.calm O.takes (glOk O.scope h1) g2 (plainN_d g1).1
    · cases h
theorem chkSL_ok (O : XO p Γ N C k W sc X) : ∀ (s : SL) {ss : List Stmt} {lk : List Nat}, chkSL N Γ sc s ss = true → PSs X ss (rdSL p C W Wb s lk)
  | .nil, ss, lk, h => by
    simp only [chkSL] at h
    split at h
    · exact s_nil
    · cases h
  | .cons s r, ss, lk, h => by
    simp only [chkSL] at h
    split at h
    · simp only [Bool.and_eq_true] at h
      exact s_cons (chkSt_ok O s h.1) (chkSL_ok O r h.2)
    · cases h
end
end
end Wh

set_option maxHeartbeats 4000000
/-! Wh, part End: the law's own call, from the top's end. -/
namespace Wh
open PySem PySem.Spec PyProof.Rows L2

/-- what is tracked at the law's call: the script (unless it is written), and the empty tables -/
def H0of (tabs : List Addr) (scr : Option (Addr × Obj × List V)) : Hp := fun b => match scr with
  | some (a, o, xs) => if b = a then some (.frz o (.lst xs)) else if b ∈ tabs then some (.tbl #[]) else none
  | none => if b ∈ tabs then some (.tbl #[]) else none
section
variable {P : Program} {w : World} {K : PySem.W.Frag} {mg mb : Str → Option Value} {s1 : Shared} {cs : List (Addr × Addr)}
/-- the heap without what is tracked -/
theorem base_mod {H : Hp} (inK : K.In s1.heap) (gns : s1.heap.Ns mainGlobals mg) (bns : s1.heap.Ns builtinsNs mb) (beq : ∀ x : Str, x ≠ "__name__" → mb x = bootBuiltins x) (nl : s1.heap.NoLimit)
    (free : ∀ b o, s1.heap.get? b = some o → (∀ es ep, o.data = .dict es ep → H b = none)) (freeK : ∀ b, K.lookup b ≠ none → H b = none) : (hidT s1.heap H).Ns mainGlobals mg ∧ L2.Mod K mg (hidT s1.heap H) := by
  have ns : ∀ {b : Addr} {m : Str → Option Value}, s1.heap.Ns b m → (hidT s1.heap H).Ns b m := by
    rintro b m ⟨o, es, ep, e, d, r⟩
    exact ⟨o, es, ep, hidT_get e (free b o e es ep d), d, r⟩
  have kin : K.In (hidT s1.heap H) := fun b o e => hidT_get (inK b o e) (freeK b (by rw [e]; simp))
  obtain ⟨mc, l1, l2⟩ := nl
  exact ⟨ns gns, kin, ns gns, ⟨mb, ns bns, beq⟩, mc, ns l1, l2⟩
/-- the tables stand apart in the base -/
theorem base_tab {H : Hp} {q : Addr × Addr} (gns : s1.heap.Ns mainGlobals mg) (hq : s1.heap.get? q.2 = some { cls := .none, data := .fields #[] }) (cq : PySem.W.CodeHd s1.heap q.1 q.2)
    (bmain : ∃ (bm : Addr) (ob : Obj), mg "__builtins__" = some (.ref bm) ∧ bm ≠ builtinsNs ∧ s1.heap.get? bm = some ob ∧ ob.cls = .type "module" ∧ ob.dict = some builtinsNs ∧ ob.data = .plain)
    (free : ∀ b o, s1.heap.get? b = some o → (∀ vs n, o.data ≠ .seq vs n) → o.data ≠ .fields #[] → H b = none) : LamX.TabB (hidT s1.heap H) mg q.1 q.2 := by
  obtain ⟨og, es, ep, eg, dg, _⟩ := gns
  refine ⟨?_, ?_, fun z => ?_⟩
  · obtain ⟨oc, us, file, tf, flags, tg, inF, text, tt, c1, c2, c3, c4, c5⟩ := cq
    refine ⟨oc, us, file, tf, flags, tg, inF, text, tt, hidT_get c1 (free _ _ c1 (fun vs n z => by rw [c3] at z; cases z) fun z => ?_), c2, c3, c4, c5⟩
    rw [c3] at z
    cases z
    simp at c4
  · obtain ⟨bm, ob, b1, b2, b3, b4, b5, b6⟩ := bmain
    refine ⟨bm, ob, b1, b2, fun z => ?_, fun z => ?_, hidT_get b3 (free _ _ b3 (fun vs n z => by rw [b6] at z; cases z) fun z => by rw [b6] at z; cases z), b4, b5, b6⟩
    · rw [z, eg] at b3
      cases b3
      rw [dg] at b6
      cases b6
    · rw [z, hq] at b3
      cases b3
      cases b6
  · rw [z, hq] at eg
    cases eg
    cases dg
/-- the law's call, where the guards are known -/
theorem law_end {a fa : Addr} {vs : List Value} {ns : List Int} (inK : K.In s1.heap) (gns : s1.heap.Ns mainGlobals mg) (bns : s1.heap.Ns builtinsNs mb) (beq : ∀ x : Str, x ≠ "__name__" → mb x = bootBuiltins x) (nl : s1.heap.NoLimit) (ng : s1.gens = #[])
    (tab : ∀ q ∈ cs, s1.heap.get? q.2 = some { cls := .none, data := .fields #[] }) (tabK : ∀ q ∈ cs, K.lookup q.2 = none) (code : ∀ q ∈ cs, PySem.W.CodeHd s1.heap q.1 q.2)
    (bmain : ∃ (bm : Addr) (ob : Obj), mg "__builtins__" = some (.ref bm) ∧ bm ≠ builtinsNs ∧ s1.heap.get? bm = some ob ∧ ob.cls = .type "module" ∧ ob.dict = some builtinsNs ∧ ob.data = .plain)
    (obj : s1.heap.get? a = some { cls := .type "list", data := .seq vs.toArray }) (hint : IntsAre vs ns) (len : ns.length ≤ sizeLine)
    (run : ∀ (base : Heap) (H : Hp), Env0 P w K mg base callerA [] s1 H → (∀ q ∈ cs, LamX.TabB base mg q.1 q.2) → (∀ q ∈ cs, H q.2 = some (.tbl #[])) → SqL K H a (ns.map V.int) →
      codeAny (model P w) callerA (.call (.ref fa) ⟨[.ref a], []⟩) (CR (L2.CX P w) [] P w H s1 (fun v _ => v = .bl true) fun _ _ _ => False) s1) :
    codeAny (model P w) callerA (.call (.ref fa) ⟨[.ref a], []⟩) (fun r s' => r = .ok (.ret (.bool true)) ∧ OldK s1.heap s'.heap ∧ s'.os = s1.os ∧ AllBare s'.gens) s1 := by
  have rel := vals_ints hint
  have many := hint.length
  have isTab : ∀ b, b ∈ cs.map (·.2) → s1.heap.get? b = some { cls := .none, data := .fields #[] } := fun b hb => by
    obtain ⟨q, hq, rfl⟩ := List.mem_map.mp hb
    exact tab q hq
  have scrNo : a ∉ cs.map (·.2) := fun z => by
    have e := isTab a z
    rw [obj] at e
    cases congrArg Obj.data (Option.some.inj e)
  -- whatever is tracked of these
  have any : ∀ H : Hp, (∀ q ∈ cs, H q.2 = some (.tbl #[])) → (∀ b u, H b = some u → (b ∈ cs.map (·.2) ∧ u = .tbl #[]) ∨ (b = a ∧ K.lookup a = none ∧ ∃ o xs, u = .frz o (.lst xs))) → SqL K H a (ns.map V.int) → HOk P w H s1.heap →
      codeAny (model P w) callerA (.call (.ref fa) ⟨[.ref a], []⟩) (fun r s' => r = .ok (.ret (.bool true)) ∧ OldK s1.heap s'.heap ∧ s'.os = s1.os ∧ AllBare s'.gens) s1 := by
    intro H hT hA hS ok
    have free1 : ∀ b o, s1.heap.get? b = some o → (∀ xs n, o.data ≠ .seq xs n) → o.data ≠ .fields #[] → H b = none := fun b o e d1 d2 => by
      cases q : H b with
      | none => rfl
      | some u =>
        rcases hA b u q with ⟨m, _⟩ | ⟨rfl, _⟩
        · rw [isTab b m] at e
          cases e
          exact absurd rfl d2
        · rw [obj] at e
          cases e
          exact absurd rfl (d1 _ _)
    have freeK : ∀ b, K.lookup b ≠ none → H b = none := fun b hb => by
      cases q : H b with
      | none => rfl
      | some u =>
        rcases hA b u q with ⟨m, _⟩ | ⟨rfl, n, _⟩
        · obtain ⟨z, hz, rfl⟩ := List.mem_map.mp m
          exact absurd (tabK z hz) hb
        · exact absurd n hb
    obtain ⟨gb, md⟩ := base_mod (H := H) inK gns bns beq nl (fun b o e es ep d => free1 b o e (fun _ _ z => by rw [d] at z; cases z) fun z => by rw [d] at z; cases z) freeK
    have start0 : Env0 P w K mg (hidT s1.heap H) callerA [] s1 H := ⟨rfl, md, fun _ _ e => of_hidT e, Nat.le_of_eq (hidT_size _ _), trivial, fun _ z => (by cases z), ok, AllBare.of_eq ng⟩
    refine codeAny_mono (run _ H start0 (fun q hq => base_tab gns (tab q hq) (code q hq) bmain free1) hT hS) fun r s' hr => ?_
    match r, hr with
    | .error e, ⟨_, _, _, _, _, _, _, _, _, _, _, _, z⟩ => exact z.elim
    | .ok (.ret u), ⟨v, H', os, bare, un, ok', rv, hv⟩ =>
      have hv : v = .bl true := hv
      subst hv
      cases (show u = Value.bool true from rv)
      have old : ∀ b o, b ∉ cs.map (·.2) → s1.heap.get? b = some o → s'.heap.get? b = some o := fun b o nb e => by
        cases q : H b with
        | none => exact un.keep b o e q (fun z => by cases z) (by simp)
        | some u =>
          rcases hA b u q with ⟨m, _⟩ | ⟨_, _, ob, xs, rfl⟩
          · exact absurd m nb
          · obtain ⟨g1, _⟩ := ok b _ q
            obtain ⟨g2, _⟩ := ok' b _ (un.frzs b ob _ q)
            rw [e] at g1
            cases g1
            exact g2
      have more : ∀ q ∈ cs, ∃ us : Array Value, s'.heap.get? q.2 = some { cls := .none, data := .fields us } := fun q hq => by
        obtain ⟨us, z⟩ := un.tbls q.2 #[] (hT q hq)
        exact ⟨_, ok' q.2 _ z⟩
      refine ⟨rfl, ⟨fun b o e => ?_, fun b o e => ?_⟩, os, bare⟩
      · by_cases m : b ∈ cs.map (·.2)
        · obtain ⟨q, hq, rfl⟩ := List.mem_map.mp m
          obtain ⟨us, hm⟩ := more q hq
          rw [tab q hq] at e
          cases e
          exact .inr (.inl ⟨((code q hq).tab (tab q hq)).isCodeTable, rfl, #[], us, rfl, by rw [Array.empty_append]; exact hm⟩)
        · exact .inl (old b o m e)
      · by_cases m : b ∈ cs.map (·.2)
        · obtain ⟨q, hq, rfl⟩ := List.mem_map.mp m
          obtain ⟨us, hm⟩ := more q hq
          exact ⟨_, hm⟩
        · exact ⟨o, old b o m e⟩
    | .ok .next, z => exact z.elim
    | .ok .brk, z => exact z.elim
    | .ok .cont, z => exact z.elim
  have memT : ∀ q ∈ cs, H0of (cs.map (·.2)) none q.2 = some (.tbl #[]) := fun q hq => by
    have m : q.2 ∈ cs.map (·.2) := List.mem_map.mpr ⟨q, hq, rfl⟩
    show (if q.2 ∈ cs.map (·.2) then some (HO.tbl #[]) else none) = _
    rw [if_pos m]
  have small : (ns.map V.int).length ≤ sizeLine := by rw [List.length_map]; exact len
  cases hk : K.lookup a with
  | some o =>
    have e := inK a o hk
    rw [obj] at e
    cases e
    refine any (H0of (cs.map (·.2)) none) (fun q hq => memT q hq) (fun b u z => ?_) (.inr ⟨_, vs.toArray, _, hk, rfl, rfl, rfl, by rw [List.size_toArray, many]; exact len, by simpa using rel⟩) fun b u z => ?_
    · have z : (if b ∈ cs.map (·.2) then some (HO.tbl #[]) else none) = some u := z
      split at z
      · rename_i m
        cases z
        exact .inl ⟨m, rfl⟩
      · cases z
    · have z : (if b ∈ cs.map (·.2) then some (HO.tbl #[]) else none) = some u := z
      split at z
      · rename_i m
        cases z
        exact isTab b m
      · cases z
  | none =>
    refine any (H0of (cs.map (·.2)) (some (a, { cls := .type "list", data := .seq vs.toArray }, ns.map V.int))) (fun q hq => ?_) (fun b u z => ?_) (.inl (.inr ⟨_, if_pos rfl⟩)) fun b u z => ?_
    · have m : q.2 ∈ cs.map (·.2) := List.mem_map.mpr ⟨q, hq, rfl⟩
      have n : ¬ q.2 = a := fun z => scrNo (by rw [← z]; exact m)
      show (if q.2 = a then _ else if q.2 ∈ cs.map (·.2) then some (HO.tbl #[]) else none) = _
      rw [if_neg n, if_pos m]
    · have z : (if b = a then some (HO.frz _ (.lst (ns.map V.int))) else if b ∈ cs.map (·.2) then some (HO.tbl #[]) else none) = some u := z
      split at z
      · rename_i e
        cases z
        exact .inr ⟨e, hk, _, _, rfl⟩
      · split at z
        · rename_i m
          cases z
          exact .inl ⟨m, rfl⟩
        · cases z
    · have z : (if b = a then some (HO.frz { cls := .type "list", data := .seq vs.toArray } (.lst (ns.map V.int))) else if b ∈ cs.map (·.2) then some (HO.tbl #[]) else none) = some u := z
      split at z
      · rename_i e
        cases z
        rw [e]
        exact ⟨obj, small, vs, _, rel, obj⟩
      · split at z
        · rename_i m
          cases z
          exact isTab b m
        · cases z
end
/-- what the head must give at the law's call -/
structure LawRun (P : Program) (w : World) (n : Nat) (mg : Str → Option Value) (fa : Addr) (h : Heap) (K : PySem.W.Frag) (cs : List (Addr × Addr)) : Prop where
  inK : K.In h
  tab : ∀ q ∈ cs, h.get? q.2 = some { cls := .none, data := .fields #[] }
  tabK : ∀ q ∈ cs, K.lookup q.2 = none
  code : ∀ q ∈ cs, PySem.W.CodeHd h q.1 q.2
  run : ∀ (s1 : Shared) (a : Addr) (ns : List Int), s1.heap = h → ns.length ≤ n → (∀ z ∈ ns, Builtin.Int.intBits z ≤ 1048576) → ∀ (base : Heap) (H : Hp), Env0 P w K mg base callerA [] s1 H → (∀ q ∈ cs, LamX.TabB base mg q.1 q.2) → (∀ q ∈ cs, H q.2 = some (.tbl #[])) → SqL K H a (ns.map V.int) →
    codeAny (model P w) callerA (.call (.ref fa) ⟨[.ref a], []⟩) (CR (L2.CX P w) [] P w H s1 (fun v _ => v = .bl true) fun _ _ _ => False) s1
theorem walk_end {l : PySem.W.OpenLaw} {n : Nat} {q : Program} {loose : List Str} {XP : (Str → Option Value) → Heap → Prop} {YP : World → Heap → Prop} {d : DefRec} (hn : l.most = some n) (hn2 : n ≤ sizeLine) (hdf : d.params.defaults = [])
    (F : ∀ (w : World) (mg : Str → Option Value) (fa : Addr) (h : Heap), YP w h → h.Ns mainGlobals mg → mg d.name = some (.ref fa) → ∃ K cs, LawRun l.prog w n mg fa h K cs) : PySem.W.WalkO q loose XP YP l.row.toRowW d [] (fun f vs => PySem.call f vs) := by
  refine Att.attach_callB hn hdf fun w _ s1 mg mb fa _ _ _ _ a vs ns G Y _ _ _ named obj hint few bits ng => ?_
  obtain ⟨K, cs, L⟩ := F w mg fa _ Y G.T.g named
  exact law_end L.inK G.T.g G.T.b G.T.builtins G.T.nolimit ng L.tab L.tabK L.code G.T.bmain obj hint (Nat.le_trans few hn2) fun base H e0 tb ht hs => L.run s1 a ns rfl few bits base H e0 tb ht hs
end Wh

set_option maxHeartbeats 4000000
/-! Wh, part Bag: the bag of drawn numbers is made. -/
namespace Wh
open PySem PySem.Spec PyProof.Rows L2

def absI (i : Int) : Int := if i < 0 then -i else i
def rAbsI : List V → Hp → VK → Prop := fun xs H Q => ∃ i, xs = [.int i] ∧ Q (.int (absI i)) H
/-- [0, 1234567891, 0, [abs(cell) for cell in script[:63]]] -/
def tBag (K : PySem.W.Frag) : TE := tLst (tCons (tC (.int 0)) (tCons (tC (.int 1234567891)) (tCons (tC (.int 0)) (tCons (tLc (iList K (tSl (rSlL K) (tVar 0) tNoPart (tPart (tC (.int 63))))) (gName 1) tYes (tCB rAbsI (tCons (tVar 1) tNil)) [1]) tNil))))
theorem upd_upd {H : Hp} {D : Addr} {o o' : HO} : upd (upd H D o) D o' = upd H D o' := by
  funext b
  by_cases e : b = D
  · subst e; rw [upd_same, upd_same]
  · rw [upd_ne e, upd_ne e, upd_ne e]
theorem bag_pure {K : PySem.W.Frag} {a : Addr} {ns : List Int} {H : Hp} {Q : VK} {x : Option V} (hs : SqL K H a (ns.map V.int)) (hn : ns.length ≤ 63)
    (q : ∀ g c H', H c = none → H g = none → c ≠ g → Same H H' → H' g = some (.lst [.int 0, .int 1234567891, .int 0, .ref c]) → H' c = some (.lst ((ns.map absI).map V.int)) → Q (.ref g) H') : tBag K [some (.ref a), x] H Q := by
  show ∃ v, ([some (V.ref a), x] : L2.St)[0]? = some (some v) ∧ _
  refine ⟨.ref a, rfl, 63, rfl, a, ns.map V.int, rfl, hs, fun t ht => ?_⟩
  have hcut : cutV (ns.map V.int) none (some 63) = ns.map V.int := by
    unfold cutV
    have h1 : HT.sIx (ns.map V.int).length 0 none = 0 := rfl
    have h2 : HT.sIx (ns.map V.int).length (ns.map V.int).length (some 63) = (ns.map V.int).length := by
      rw [List.length_map]
      have := HT.sIx_nat ns.length ns.length 63
      rw [show (some (63 : Int)) = some ((63 : Nat) : Int) from rfl, this]
      omega
    rw [h1, h2]
    simp only [List.drop_zero, Nat.sub_zero]
    exact List.take_length
  rw [hcut]
  refine ⟨t, rfl, ⟨_, SqL.of upd_same⟩, fun D hD => ?_⟩
  have nD : t ≠ D := fun z => by rw [← z, upd_same] at hD; cases hD
  let Hd : Nat → Hp := fun i => upd (upd H t (.lst (ns.map V.int))) D (.lst (((ns.take i).map absI).map V.int))
  refine lc_list (xs := ns.map V.int) (fun i H' => H' = Hd i) rfl (fun i H' _ e => ?_) (fun i v H' hv e => ?_) fun H' e => ?_
  · subst e
    exact SqL.of (by show upd _ D _ t = _; rw [upd_ne nD, upd_same])
  · subst e
    rw [List.getElem?_map] at hv
    cases qn : ns[i]? with
    | none => rw [qn] at hv; cases hv
    | some n =>
      rw [qn] at hv
      cases hv
      refine ⟨rfl, ?_⟩
      show ∃ v, ((L2.wipe [some (V.ref a), x] [1]).set 1 (some (V.int n)))[1]? = some (some v) ∧ _
      refine ⟨.int n, rfl, n, rfl, ((ns.take i).map absI).map V.int, upd_same, ?_, ?_⟩
      · rw [List.length_map, List.length_map, List.length_take, sizeLine_eq]; omega
      · show upd (upd _ D _) D _ = upd _ D _
        rw [upd_upd]
        have hi := (List.getElem?_eq_some_iff.mp qn).1
        rw [List.take_succ_eq_append_getElem hi]
        have e2 : ns[i] = n := (List.getElem?_eq_some_iff.mp qn).2
        rw [e2, List.map_append, List.map_append]
        rfl
  · subst e
    refine ⟨by show 4 ≤ sizeLine; rw [sizeLine_eq]; decide, fun g hg => ?_⟩
    have ng : g ≠ D := fun z => by
      rw [z] at hg
      have : Hd (ns.map V.int).length D = some _ := upd_same
      rw [this] at hg; cases hg
    have ngt : g ≠ t := fun z => by
      have : Hd (ns.map V.int).length t = some (.lst (ns.map V.int)) := by show upd _ D _ t = _; rw [upd_ne nD, upd_same]
      rw [z, this] at hg; cases hg
    have Hg : H g = none := by
      have : Hd (ns.map V.int).length g = H g := by show upd _ D _ g = _; rw [upd_ne ng, upd_ne ngt]
      rw [← this]; exact hg
    have HD : H D = none := by rw [upd_ne (Ne.symm nD)] at hD; exact hD
    refine q g D _ HD Hg (Ne.symm ng) (fun b o e => ?_) upd_same ?_
    · rw [upd_ne (ne_of_none e Hg)]
      show upd _ D _ b = _
      rw [upd_ne (ne_of_none e HD), upd_ne (ne_of_none e ht)]
      exact e
    · rw [upd_ne (Ne.symm ng)]
      show upd _ D _ D = _
      rw [upd_same, List.length_map, List.take_length]
section
variable {X : Cx}
/-- what the text of the list is -/
def bagE (x y : Str) : Expr → Option Scope
  | .List [.Constant (.int a) _ _, .Constant (.int b) _ _, .Constant (.int c) _ _, .ListComp (.Call (.Name f _) [.Name y1 _] [] _) [⟨.Name y2 _, .Subscript (.Name x1 _) (.Slice none (some (.Constant (.int d) _ _)) none _) _, [], z⟩] scope _] _ =>
    if a = 0 ∧ b = 1234567891 ∧ c = 0 ∧ d = 63 ∧ z = 0 ∧ f = Str.ofString "abs" ∧ y1 = y ∧ y2 = y ∧ x1 = x then some scope else none
  | _ => none
theorem pe_bag {e : Expr} {x y : Str} {scope : Scope} (he : bagE x y e = some scope) (hc : X.calm = true) (hN : X.N = [x, y]) (nd : X.N.Nodup) (hx : Vis X.env.scope x) (px : plainN x = true) (py : plainN y = true) (ok : BlkOk X.N X.env.scope scope [(y, 1)]) (hy : (relS scope X.env.scope).names.lookup y = some .local)
    (ga : (relS scope X.env.scope).names.lookup (Str.ofString "abs") = some .globalImplicit) (ma : X.mg (Str.ofString "abs") = none) : PE X e (tBag X.K) := by
  unfold bagE at he
  split at he
  · split at he
    · rename_i h
      obtain ⟨rfl, rfl, rfl, rfl, rfl, rfl, rfl, rfl, rfl⟩ := h
      cases he
      have h0 := congrArg (fun l : List Str => l[0]?) hN
      have h1 := congrArg (fun l : List Str => l[1]?) hN
      dsimp only [List.getElem?_cons_zero, List.getElem?_cons_succ] at h0 h1
      refine pe_lst (pa_cons pe_int (pa_cons pe_int (pa_cons pe_int (pa_cons (pe_lc (own := [(_, 1)]) hc nd (pi_list (pe_slice sl_list (pe_var h0 hx (plainN_d px).1 (plainN_d px).2) po_none (po_some pe_int))) ok (fun s H Ca cl fp => pg_name nd h1 (.inl hy) (.inr hy)) (fun s H Ca cl fp => pts_nil) fun s H Ca cl fp => ?_) pa_nil))))
      exact pe_callB call_abs ga ma (by decide +kernel) (pa_cons (pe_var h1 (.inl hy) (plainN_d py).1 (plainN_d py).2) pa_nil) (by decide) (by decide) rfl rfl
    · cases he
  · cases he
end
/-- the bag is new -/
def spBag (K : PySem.W.Frag) : Sp := fun vs H Q _ => ∃ (a : Addr) (ns : List Int), vs = [.ref a] ∧ SqL K H a (ns.map V.int) ∧ ns.length ≤ 63 ∧
  ∀ g c H', H c = none → H g = none → c ≠ g → Same H H' → H' g = some (.lst [.int 0, .int 1234567891, .int 0, .ref c]) → H' c = some (.lst ((ns.map absI).map V.int)) → Q (.ref g) H'
/-- the text of _law_bag -/
def bagB (body : List Stmt) (sc : Scope) : Bool := match body with
  | [.Return (some e) _] => (match bagE (Str.ofString "script") (Str.ofString "cell") e with
    | some scope => blkC [Str.ofString "script", Str.ofString "cell"] sc scope [(Str.ofString "cell", 1)] && visB sc (Str.ofString "script") && decide ((relS scope sc).names.lookup (Str.ofString "cell") = some .local) && decide ((relS scope sc).names.lookup (Str.ofString "abs") = some .globalImplicit)
    | none => false)
  | _ => false
theorem fn_bag {CX : CXT} {P : Program} {w : World} {K : PySem.W.Frag} {mg : Str → Option Value} {base : Heap} {k : Nat} {f : Addr} {name qual : Str} {params : Arguments} {body : List Stmt} {scope : Scope} {dV kV doc pm cdv ct oc : Value} {an od : Option Addr} {osl : Array (Option Value)}
    (lk : K.lookup f = some ⟨oc, od, .func (PySem.W.fnOf name qual params body scope dV kV doc pm an cdv ct), osl⟩) (hcd : PySem.W.codeIn K cdv qual = true) (S : FnScope [Str.ofString "script", Str.ofString "cell"] [Str.ofString "script"] scope) (hb : bagB body scope = true) (ma : mg (Str.ofString "abs") = none) :
    FnOk P w K mg base CX (k + 1) f (PySem.W.fnOf name qual params body scope dV kV doc pm an cdv ct) [Str.ofString "script"] (spBag K) := by
  refine fn_of lk hcd S (fun vs H Q E ⟨a, ns, h, _⟩ => by rw [h]; rfl) fun A outer s H vs Q E hr ⟨a, ns, h1, h2, h3, h4⟩ => ?_
  unfold bagB at hb
  split at hb
  · split at hb
    · rename_i q
      simp only [Bool.and_eq_true, decide_eq_true_eq] at hb
      obtain ⟨⟨⟨g1, g2⟩, g3⟩, g4⟩ := hb
      subst h1
      exact ⟨tRet (tBag K), pss_one (ps_ret (pe_bag q rfl rfl S.nd (visOk g2) (by decide +kernel) (by decide +kernel) (blkOk_by g1) g3 g4 ma)), bag_pure (x := none) h2 h3 h4⟩
    · cases hb
  · cases hb
end Wh

set_option maxHeartbeats 4000000
/-! Wh, part Law: the law's def, its bag made first. -/
namespace Wh
open PySem PySem.Spec PyProof.Rows L2

def bag0 (ns : List Int) : Bag := ⟨0, 1234567891, 0, ns.map absI⟩
theorem absI_nn (i : Int) : 0 ≤ absI i := by unfold absI; split <;> omega
/-- the names of the law's frame behind its first statement -/
def env0 (j n : Nat) : Env := (List.replicate n none).set j (some (.S, .bag))
theorem env0_get {j n i : Nat} {m : Md} {d : D} (h : (env0 j n).get i = some (m, d)) : i = j ∧ m = .S ∧ d = .bag := by
  unfold env0 Env.get at h
  by_cases e : j = i
  · subst e
    by_cases hl : j < (List.replicate n (none : Option (Md × D))).length
    · rw [List.getElem?_set_self hl] at h
      cases h
      exact ⟨rfl, rfl, rfl⟩
    · rw [List.getElem?_eq_none (by simpa using hl)] at h
      cases h
  · rw [List.getElem?_set_ne e, List.getElem?_replicate] at h
    split at h <;> rename_i q <;> (split at q <;> first | (cases q; cases h) | cases q | skip)
    all_goals cases h
theorem FI.law {p : Pl} {H : Hp} {B : Bag} {σ : L2.St} {j n : Nat} (am : Amb p B H) (hl : σ.length = n) (hj : σ[j]? = some (some (.ref p.g))) : FI p (fun _ => False) H [] (fun _ => False) (fun _ => []) (env0 j n) σ H where
  ext := .refl _ _
  gc := by rw [am.bag.row]; exact fun z => by cases z
  len := by unfold env0; rw [List.length_set, List.length_replicate, hl]
  nd := fun _ => List.nodup_nil
  own := fun i b hb => by cases hb
  one := fun i j b hb => by cases hb
  lk := fun e he => by cases he
  at_ := fun i m d q => by
    obtain ⟨rfl, rfl, rfl⟩ := env0_get q
    exact ⟨_, [], hj, .bag, fun b hb => by cases hb⟩
  zp := fun b hb => hb.elim
  lth := fun e he => by cases he
theorem amb0 {p : Pl} {H : Hp} {ns : List Int} (hn : ns.length ≤ 63) (h1 : H p.g = some (.lst [.int 0, .int 1234567891, .int 0, .ref p.gc])) (h2 : H p.gc = some (.lst ((ns.map absI).map V.int))) (ne : p.gc ≠ p.g) (t : LamX.Tabs p.T H) : Amb p (bag0 ns) H :=
  ⟨⟨h1, h2, ne, by show (0 : Int) ≤ 0; decide, by show (0 : Int) ≤ 1234567891 ∧ (1234567891 : Int) < 2147483647; decide, by show (ns.map absI).length ≤ 63; rw [List.length_map]; exact hn, fun x hx => by
    obtain ⟨i, _, rfl⟩ := List.mem_map.mp (show x ∈ ns.map absI from hx)
    exact absI_nn i⟩, t⟩
/-- where things stand, by the bag's two places -/
def Pl.at (p : Pl) (g c : Addr) : Pl := { p with g := g, gc := c }
/-- the law's body: the bag, then what is checked -/
theorem law_body {X : Cx} {p : Pl} {C : Cs} {W : WX} {Wb : Nat} {j : Nat} {n : Nat} {st : Stmt} {rest : List Stmt} {r : SL} {ns : List Int} {a : Addr} {σ : L2.St} {H : Hp} (hK : p.K = X.K)
    (ps : PS X st (tAsg (fun σ H Q => ∃ v, σ[0]? = some (some v) ∧ spBag X.K [v] H Q fun _ _ _ => False) (gName j)))
    (pr : ∀ g c, PSs X rest (rdSL (p.at g c) C W Wb r []))
    (h0 : σ[0]? = some (some (.ref a))) (hs : SqL X.K H a (ns.map V.int)) (hn : ns.length ≤ 63) (hT : LamX.Tabs p.T H) (hl : σ.length = n) (hj : j < n) {fl : Fl} {B' : Bag} (hr : exL C Wb r [] (env0 j n) (bag0 ns) = .ret ⟨.bl true, fl⟩ B') (hf : fl.lent = false) :
    ∃ t, PSs X (st :: rest) t ∧ t { nx := fun _ H' => (fun v _ => v = V.bl true) .non H', rt := fun v _ => v = V.bl true } σ H := by
  refine ⟨_, pss_cons ps (u := fun D σ H => ∃ g c, rdSL (p.at g c) C W Wb r [] D σ H) ⟨fun pins s σ H D I ⟨g, c, q⟩ => (pr g c).run pins s σ H D I q⟩, ?_⟩
  refine ⟨.ref a, h0, a, ns, rfl, hs, hn, fun g c H' hc hg ne sm e1 e2 => ?_⟩
  refine ⟨g, c, env0 j n, bag0 ns, fun _ => False, H', [], fun _ => False, fun _ => [], ?_, ?_, fun e he => (by cases he), ?_⟩
  · refine FI.law (p := p.at g c) (B := bag0 ns) (amb0 (p := p.at g c) hn e1 e2 ne (hT.ext sm)) (by rw [List.length_set]; exact hl) ?_
    rw [List.getElem?_set_self (by rw [hl]; exact hj)]
    rfl
  · exact amb0 (p := p.at g c) hn e1 e2 ne (hT.ext sm)
  · rw [hr]
    intro v H2 _ _ _ hv
    obtain ⟨fp, rf⟩ := hv.rf
    exact rf.bl_
/-- the law's call, by its body -/
theorem law_go {P : Program} {w : World} {mg : Str → Option Value} {base : Heap} {p : Pl} {Γ : GMs} {Pf : Nat → Option Fn} {Wb k : Nat} {a fa : Addr} {name qual : Str} {params : Arguments} {st : Stmt} {rest : List Stmt} {scope : Scope} {dV kV doc pm cdv ct oc : Value} {an od : Option Addr} {osl : Array (Option Value)} {N : List Str} {x : Str} {r : SL} {j n : Nat} {ns : List Int} {s : Shared} {H : Hp} {fl : Fl} {B' : Bag} {tbl : Bool}
    (lk : p.K.lookup fa = some ⟨oc, od, .func (PySem.W.fnOf name qual params (st :: rest) scope dV kV doc pm an cdv ct), osl⟩) (hcd : PySem.W.codeIn p.K cdv qual = true) (S : FnScope N [x] scope) (hN : N.length = n) (hn1 : 1 ≤ n) (hpl : ∀ y ∈ N, plainN y = true) (hr : Room (3 * k + 3) callerA)
    (e0 : Env0 P w p.K mg base callerA [] s H) (bt : BindsTo s (PySem.W.fnOf name qual params (st :: rest) scope dV kV doc pm an cdv ct) ⟨[.ref a], []⟩ ([x].zip [.ref a])) (gl : ∀ g c, GOk (p.at g c) mg Γ) (ih : ∀ g c f, p.ok f → FnG P w mg base (p.at g c) (callN Pf Wb k) k f)
    (hps : ∀ E, PS (cxOf (L2.CX P w) P w p.K mg base N qual scope fa cdv callerA [] s H E) st (tAsg (fun σ H Q => ∃ v, σ[0]? = some (some v) ∧ spBag p.K [v] H Q fun _ _ _ => False) (gName j))) (chk : chkSL N { Γ with gd := true, lm := true, tb := tbl } scope r rest = true)
    (hs : SqL p.K H a (ns.map V.int)) (hn : ns.length ≤ 63) (hT : LamX.Tabs p.T H) (htb : tbl = true → LamOk p mg base qual cdv) (hj : j < n) (hev : exL (callN Pf Wb k) Wb r [] (env0 j n) (bag0 ns) = .ret ⟨.bl true, fl⟩ B') (hf : fl.lent = false) :
    codeAny (model P w) callerA (.call (.ref fa) ⟨[.ref a], []⟩) (CR (L2.CX P w) [] P w H s (fun v _ => v = .bl true) fun _ _ _ => False) s := by
  refine LamX.run_ofS (k := 3 * k + 2) (N := N) (ps := [x]) (us := [.ref a]) (vs := [.ref a]) lk hcd S hr e0 bt (.cons rfl .nil) rfl fun hr2 => ?_
  let X := cxOf (L2.CX P w) P w p.K mg base N qual scope fa cdv callerA [] s H fun _ _ _ => False
  have hcode : X.env.code = cdv := rfl
  have hqual : X.env.qual = qual ++ (".<locals>." : Str) := rfl
  have lam : ∀ g c, tbl = true → ∃ c1 P1, LamX.TabB X.base X.mg c1 P1 ∧ X.env.code = .ref c1 ∧ (P1, X.env.qual ++ ("<lambda>" : Str)) ∈ (p.at g c).T ∧ ∀ q ∈ (p.at g c).T, q.1 = P1 → q.2 = X.env.qual ++ ("<lambda>" : Str) := by
    rw [hcode, hqual]
    exact fun _ _ => htb
  have XOl : ∀ g c, XO (p.at g c) { Γ with gd := true, lm := true, tb := tbl } N (callN Pf Wb k) k (fun _ _ _ _ => False) scope X := fun g c =>
    ⟨rfl, rfl, S.nd, rfl, hr2.mono (by omega), fun _ => hr2, fun _ => rfl, rfl, fun _ _ => rfl, S.kind, passes_of (X := X) rfl, takes_of (X := X) (E := fun _ _ _ => False) rfl rfl rfl rfl, ih g c, (gl g c).flag _ _ _, hpl, lam g c⟩
  refine law_body (X := X) (p := p) (C := callN Pf Wb k) (W := fun _ _ _ _ => False) (Wb := Wb) (r := r) (n := n) rfl (hps _) (fun g c => chkSL_ok (XOl g c) r chk) ?_ hs hn hT ?_ hj hev hf
  · exact start_get rfl
  · rw [start_len (by rw [hN]; exact hn1), hN]
/-- bag = _law_bag(script) -/
theorem bag_ps {X : Cx} {k : Nat} {f : Addr} {fd : FuncData} {j : Nat} {x b z : Str} {q1 q2 q3 q4 q5 : Pos} (F : FnOk X.prog X.w X.K X.mg X.base CX0 k f fd [Str.ofString "script"] (spBag X.K)) (hr : Room k X.A) (hg : Gl X z) (hm : X.mg z = some (.ref f)) (hk : PySem.W.keepIn X.K (.ref f) = true) (hb : L2.Binds X.K fd [Str.ofString "script"] [])
    (nd : X.N.Nodup) (h0 : X.N[0]? = some x) (hj : X.N[j]? = some b) (vx : Vis X.env.scope x) (lb : Loc X.env.scope b) (hf : X.fn b = true) (pz : plainN z = true) (px : plainN x = true) :
    PS X (.Assign [.Name b q1] (.Call (.Name z q2) [.Name x q3] [] q4) q5) (tAsg (fun σ H Q => ∃ v, σ[0]? = some (some v) ∧ spBag X.K [v] H Q fun _ _ _ => False) (gName j)) :=
  (ps_set nd hj lb (pe_call F hr hg hm hk hb .nil pass0 (pa_cons (pe_var h0 vx (plainN_d px).1 (plainN_d px).2) pa_nil) (plainN_d pz).1 rfl rfl) rfl (.inl hf)).weak fun D σ H h => h
end Wh

set_option maxHeartbeats 4000000
/-! Wh, part Join: from what the head tells to the law's call. -/
namespace Wh
open PySem PySem.Spec PyProof.Rows L2

/-! ### parameters -/
theorem zip_lookup : ∀ {ps : List Str} {us : List Value}, us.length = ps.length → ∀ n ∈ ps, ((ps.zip us).lookup n).isSome = true
  | [], _, _, n, h => by cases h
  | p :: ps, [], h, _, _ => by cases h
  | p :: ps, u :: us, h, n, hn => by
    rw [List.zip_cons_cons, List.lookup_cons]
    cases e : (n == p) with
    | true => rfl
    | false =>
      rcases List.mem_cons.mp hn with z | z
      · rw [z] at e; simp at e
      · exact zip_lookup (by simpa using h) n z
theorem zip_all : ∀ {ps : List Str} {us : List Value} (f : Str → Option Value), ps.Nodup → us.length = ps.length → (∀ q ∈ ps.zip us, f q.1 = some q.2) → (ps.filterMap fun n => (f n).map fun x => (n, x)) = ps.zip us
  | [], us, f, _, h, _ => by cases us <;> first | rfl | cases h
  | p :: ps, [], f, _, h, _ => by cases h
  | p :: ps, u :: us, f, nd, h, hq => by
    have e : f p = some u := hq (p, u) List.mem_cons_self
    have r := zip_all (us := us) f (List.nodup_cons.mp nd).2 (by simpa using h) fun q z => hq q (List.mem_cons_of_mem _ z)
    rw [List.zip_cons_cons, List.filterMap_cons, e]
    simp only [Option.map_some]
    rw [r]
theorem zip_lk : ∀ {ps : List Str} {us : List Value}, ps.Nodup → ∀ q ∈ ps.zip us, (ps.zip us).lookup q.1 = some q.2
  | [], us, _, q, h => by simp at h
  | p :: ps, [], _, q, h => by simp at h
  | p :: ps, u :: us, nd, q, h => by
    rw [List.zip_cons_cons] at h ⊢
    rw [List.lookup_cons]
    rcases List.mem_cons.mp h with rfl | z
    · simp
    · have n1 := List.nodup_cons.mp nd
      have : (q.1 == p) = false := by
        rw [beq_eq_false_iff_ne]
        intro e
        have := (List.of_mem_zip (a := q.1) (b := q.2) z).1
        rw [e] at this
        exact n1.1 this
      rw [this]
      exact zip_lk n1.2 q z
theorem bind_plain {x q : Str} {as : List Arg} {body : List Stmt} {sc : Scope} {kV doc pm cdv ct : Value} {an : Option Addr} {us : List Value} (nd : (as.map (·.arg)).Nodup) (hl : us.length = (as.map (·.arg)).length) :
    bindArgs (PySem.W.fnOf x q ⟨[], as, none, [], [], none, []⟩ body sc .none kV doc pm an cdv ct) ⟨us, []⟩ = pure ((as.map (·.arg)).zip us) := by
  have h1 := zip_all (fun n => ((as.map (·.arg)).zip us).lookup n) nd hl (zip_lk nd)
  have h2 : ((as.map (·.arg)).filter fun n => (((as.map (·.arg)).zip us).lookup n).isNone) = [] := by
    rw [List.filter_eq_nil_iff]
    intro n hn
    have := zip_lookup hl n hn
    cases z : ((as.map (·.arg)).zip us).lookup n with
    | none => rw [z] at this; cases this
    | some v => simp
  unfold bindArgs
  simp only [PySem.W.fnOf, seqItems?, notAStandIn, List.map_nil, List.nil_append, List.append_nil]
  generalize as.map (·.arg) = ps at *
  simp [hl, h1, h2]
/-- parameters of the plainest form -/
def parB : Arguments → Option (List Str)
  | ⟨[], l, none, [], [], none, []⟩ => some (l.map (·.arg))
  | _ => none
theorem parB_ok {as : Arguments} {ps : List Str} (h : parB as = some ps) : ∃ l : List Arg, as = ⟨[], l, none, [], [], none, []⟩ ∧ ps = l.map (·.arg) := by
  unfold parB at h
  split at h
  · cases h; exact ⟨_, rfl, rfl⟩
  · cases h
def fnSB (N ps : List Str) (sc : Scope) : Bool := decide (sc.kind = .function) && !sc.isCoroutine && !sc.isGenerator && decide N.Nodup && decide (N.take ps.length = ps) && ps.all (fun x => decide (sc.names.lookup x = some .local) || decide (sc.names.lookup x = some .cell)) && sc.names.all fun y => !decide (y.2 = .free)
theorem fnSB_ok {N ps : List Str} {sc : Scope} (h : fnSB N ps sc = true) : FnScope N ps sc := by
  unfold fnSB at h
  simp only [Bool.and_eq_true, Bool.or_eq_true, Bool.not_eq_true', decide_eq_true_eq, decide_eq_false_iff_not, List.all_eq_true] at h
  obtain ⟨⟨⟨⟨⟨⟨h1, h2⟩, h3⟩, h4⟩, h5⟩, h6⟩, h7⟩ := h
  exact ⟨h1, h2, h3, h4, h5, h6, h7⟩
/-- a def's text is its own syntax -/
def defB (Γ : GMs) (hv tb : Bool) (N : List Str) (d : Def) (as : Arguments) (sc : Scope) (body : List Stmt) : Bool := match parB as with
  | some ps => fnSB N ps sc && decide ps.Nodup && decide (ps.length = d.np) && decide (N.length = d.ns) && decide (d.np ≤ d.ns) && N.all plainN && chkSL N { Γ with gd := hv, lm := true, tb := tb } sc d.body body
  | none => false
theorem FunD.plain {K : PySem.W.Frag} {x q : Str} {as : Arguments} {body : List Stmt} {sc : Scope} {f : Addr} {fd : FuncData} {ps : List Str} (F : FunD K x q as body sc [] [] f fd) (hp : parB as = some ps) (nd : ps.Nodup) :
    ∃ (oc : Value) (od : Option Addr) (dV kV doc pm : Value) (an : Option Addr) (cdv ct : Value) (osl : Array (Option Value)), fd = PySem.W.fnOf x q as body sc dV kV doc pm an cdv ct ∧ K.lookup f = some ⟨oc, od, .func fd, osl⟩ ∧ PySem.W.codeIn K cdv q = true ∧ (∀ us : List Value, us.length = ps.length → bindArgs fd ⟨us, []⟩ = pure (ps.zip us)) := by
  obtain ⟨oc, od, dV, kV, doc, pm, an, cdv, ct, osl, rfl, h2, h3, h4, h5⟩ := F.ex
  obtain ⟨l, rfl, rfl⟩ := parB_ok hp
  rcases h4 with ⟨_, rfl⟩ | ⟨z, _⟩
  · exact ⟨oc, od, _, kV, doc, pm, an, cdv, ct, osl, rfl, h2, h3, fun us hl => bind_plain nd hl⟩
  · exact absurd rfl z

/-! ### constants -/
mutual
def valB (K : PySem.W.Frag) : D → Value → Bool
  | .non, u => match u with
    | .none => true
    | _ => false
  | .bl b, u => match u with
    | .bool c => b == c
    | _ => false
  | .int i, u => match u with
    | .int j _ => decide (i = j)
    | _ => false
  | .str s, u => match u with
    | .str t _ => decide (s = t)
    | _ => false
  | .tup l, u => match u with
    | .ref a => (match K.lookup a with
      | some ⟨.type c, none, .seq its _, _⟩ => decide (c = "tuple") && decide (its.size ≤ sizeLine) && valBL K l its.toList
      | _ => false)
    | _ => false
  | _, _ => false
def valBL (K : PySem.W.Frag) : List D → List Value → Bool
  | [], us => us.isEmpty
  | d :: r, us => match us with
    | [] => false
    | u :: q => valB K d u && valBL K r q
end
mutual
theorem valB_ok {p : Pl} : ∀ (d : D) (u : Value), valB p.K d u = true → ∃ v, RelV v u ∧ ∀ H, Rf p H v d []
  | .non, u, h => by
    simp only [valB] at h
    split at h
    · exact ⟨.non, rfl, fun _ => .non⟩
    · cases h
  | .bl b, u, h => by
    simp only [valB] at h
    split at h
    · have e := eq_of_beq h
      subst e
      exact ⟨.bl b, rfl, fun _ => .bl b⟩
    · cases h
  | .int i, u, h => by
    simp only [valB] at h
    split at h
    · have e := of_decide_eq_true h
      subst e
      exact ⟨.int i, ⟨_, rfl⟩, fun _ => .int i⟩
    · cases h
  | .str s, u, h => by
    simp only [valB] at h
    split at h
    · have e := of_decide_eq_true h
      subst e
      exact ⟨.str s, ⟨_, rfl⟩, fun _ => .str s⟩
    · cases h
  | .tup l, u, h => by
    simp only [valB] at h
    split at h
    · rename_i a
      split at h
      · rename_i c its n sl q
        simp only [Bool.and_eq_true, decide_eq_true_eq] at h
        obtain ⟨⟨rfl, h2⟩, h3⟩ := h
        obtain ⟨vs, k1, k2⟩ := valBL_ok l its.toList h3
        exact ⟨.ref a, rfl, fun H => .ktup ⟨_, its, n, q, rfl, rfl, h2, k1, rfl⟩ (k2 H)⟩
      · cases h
    · cases h
  | .lst _, u, h => by simp [valB] at h
  | .dct _, u, h => by simp [valB] at h
  | .set _, u, h => by simp [valB] at h
  | .fn _, u, h => by simp [valB] at h
  | .bag, u, h => by simp [valB] at h
  | .pr _, u, h => by simp [valB] at h
theorem valBL_ok {p : Pl} : ∀ (l : List D) (us : List Value), valBL p.K l us = true → ∃ vs, Vals vs us ∧ ∀ H, RfL p H vs l []
  | [], us, h => by
    cases us with
    | nil => exact ⟨[], .nil, fun _ => .nil⟩
    | cons u q => simp [valBL] at h
  | d :: r, us, h => by
    cases us with
    | nil => simp [valBL] at h
    | cons u q =>
      simp only [valBL, Bool.and_eq_true] at h
      obtain ⟨v, k1, k2⟩ := valB_ok d u h.1
      obtain ⟨vs, k3, k4⟩ := valBL_ok r q h.2
      exact ⟨v :: vs, .cons k1 k3, fun H => RfL.cons_nil (k2 H) (k4 H)⟩
end
/-- the module's name x is d -/
def cstB (K : PySem.W.Frag) (x : Str) (d : D) : Bool := match PySem.W.nsIn K mainGlobals x with
  | some (some u) => valB K d u
  | _ => false
theorem cstB_ok {p : Pl} {h : Heap} {mg : Str → Option Value} {x : Str} {d : D} (X : p.K.In h) (G : h.Ns mainGlobals mg) (c : cstB p.K x d = true) : ∃ u v, mg x = some u ∧ RelV v u ∧ ∀ H, Rf p H v d [] := by
  unfold cstB at c
  split at c
  · rename_i u q
    obtain ⟨v, k1, k2⟩ := valB_ok d u c
    exact ⟨u, v, PySem.W.mg_of X G q, k1, k2⟩
  · cases c

/-! ### a law's text -/
structure DI where
  f : Nat
  dd : He.DefD
  N : List Str
  d : Def
structure Tx where
  all : List (Nat × Str)
  csts : List (Nat × (Str × D))
  excs : List (Nat × Str)
  heard : List (Nat × (Str × Nat))
  hvl : List Nat
  tbl : List Nat
  ds : List DI
  bag : He.DefD
  law : He.DefD
  /-- the other defs that the head tells of -/
  hds : List He.DefD
  tf : List He.Defn
namespace Tx
variable (x : Tx)
def nm (f : Nat) : Str := (x.all.lookup f).getD Str.empty
def cn (c : Nat) : Str := (x.excs.lookup c).getD Str.empty
def di (f : Nat) : Option DI := x.ds.find? fun i => i.f == f
def hv (f : Nat) : Bool := x.hvl.contains f
def tb (f : Nat) : Bool := x.tbl.contains f
def Γ : GMs where
  fn := fun f => if x.ds.any (fun i => i.f == f) then x.all.lookup f else none
  cst := fun j => x.csts.lookup j
  exc := fun c => x.excs.lookup c
  hv := x.hv
  gd := true
  lm := true
  tb := false
  hd := fun f => x.heard.lookup f
def Pf (f : Nat) : Option Fn := match x.di f with
  | some i => some (.py i.d)
  | none => none
def tabs (K : PySem.W.Frag) : List (Addr × Str) := x.tf.map fun q => ((He.cT K q).2, (q.1 ++ (".<locals>." : Str)) ++ ("<lambda>" : Str))
def pl (K : PySem.W.Frag) (g gc : Addr) : Pl where
  K := K
  F := fun f => He.ga K (x.nm f)
  ok := fun f => ∃ i, x.di f = some i
  hv := x.hv
  tb := x.tb
  C := fun c => He.ga K (x.cn c)
  g := g
  gc := gc
  T := x.tabs K
def fa : List He.Fa := (x.all.map fun q => He.Fa.glo q.2) ++ (bltN.map fun b => He.Fa.free (Str.ofString b)) ++ x.excs.flatMap fun q => [.glo q.2, .exc q.2, .exm q.2 q.2 true]
def more : List He.DefD := x.bag :: x.law :: x.hds
def fnl : List He.DefD := x.ds.map (·.dd) ++ x.more
def ex (K : PySem.W.Frag) : Bool := (x.csts.all fun q => cstB K q.2.1 q.2.2) && decide ((x.tf.map fun q => (He.cT K q).2).Nodup)
/-- the heard def's text -/
def heardB (f : Nat) (y : Str) (c : Nat) (dd : He.DefD) : Bool := decide (dd.name = y) && decide (dd.at_ = (y, none)) && decide (x.all.lookup f = some y) && dd.dfl.isEmpty && dd.kwd.isEmpty && (match parB dd.params, x.excs.lookup c with
  | some [a], some e => plainN a && plainN e && plainN y && fnSB [a] [a] dd.scope && visB dd.scope a && toldB a e dd.body && decide (dd.scope.names.lookup e = some .globalImplicit)
  | _, _ => false)
/-- all that can be told of the text alone -/
def okB : Bool := (x.all.all fun q => decide (x.all.lookup q.1 = some q.2) && plainN q.2) && (x.csts.all fun q => plainN q.2.1) && (x.excs.all fun q => plainN q.2 && decide (x.excs.lookup q.1 = some q.2)) &&
  (x.heard.all fun q => x.more.any fun dd => x.heardB q.1 q.2.1 q.2.2 dd) &&
  x.ds.all fun i => decide (x.all.lookup i.f = some i.dd.name) && decide (i.dd.at_ = (i.dd.name, none)) && decide (i.dd.qual = i.dd.name) && i.dd.dfl.isEmpty && i.dd.kwd.isEmpty && (!(x.tb i.f) || x.tf.contains (i.dd.name, none))
def chkB (i : DI) : Bool := defB x.Γ (x.hv i.f) (x.tb i.f) i.N i.d i.dd.params i.dd.scope i.dd.body
end Tx
theorem mem_lk {α : Type} {a : Nat} {o : α} : ∀ {l : List (Nat × α)}, l.lookup a = some o → (a, o) ∈ l
  | [], h => by cases h
  | (b, u) :: r, h => by
    rw [List.lookup_cons] at h
    cases q : (a == b) with
    | true =>
      rw [q] at h
      cases h
      rw [beq_iff_eq.mp q]
      exact List.mem_cons_self
    | false =>
      rw [q] at h
      exact List.mem_cons_of_mem _ (mem_lk h)
theorem fAd_none {K : PySem.W.Frag} {y : Str} : He.fAd K (y, none) = He.ga K y := rfl

section
variable {x : Tx} {w : World} {h : Heap} {K : PySem.W.Frag} {mg : Str → Option Value}
abbrev Told (x : Tx) (w : World) (h : Heap) (K : PySem.W.Frag) : Prop := He.SaysX x.fa x.fnl [] x.tf x.ex w h K
theorem Told.glo (c : Told x w h K) (X : K.In h) (G : h.Ns mainGlobals mg) {f : Nat} {y : Str} (hy : x.all.lookup f = some y) : mg y = some (.ref (He.ga K y)) :=
  He.glo_ok X G (He.SaysD.facts (He.SaysT.d c.t) (List.mem_append_left _ (List.mem_append_left _ (List.mem_map.mpr ⟨(f, y), mem_lk hy, rfl⟩))))
theorem Told.exc3 (c : Told x w h K) {e : Nat} {y : Str} (hy : x.excs.lookup e = some y) : ∀ f ∈ [He.Fa.glo y, .exc y, .exm y y true], f.ok K = true := fun f hf =>
  He.SaysD.facts (He.SaysT.d c.t) (List.mem_append_right _ (List.mem_flatMap.mpr ⟨(e, y), mem_lk hy, hf⟩))
theorem Told.excOk (c : Told x w h K) (X : K.In h) (G : h.Ns mainGlobals mg) {e : Nat} {y : Str} (hy : x.excs.lookup e = some y) (g gc : Addr) : ExcOk (x.pl K g gc) mg y e ∧ PySem.W.exmOne K (.ref ((x.pl K g gc).C e)) (.ref ((x.pl K g gc).C e)) = some true := by
  have ce : (x.pl K g gc).C e = He.ga K y := by
    show He.ga K (x.cn e) = _
    unfold Tx.cn
    rw [hy]
    rfl
  have h3 := c.exc3 hy
  obtain ⟨k1, k2, k3, k4⟩ := He.exc_ok (h3 (.exc y) (by simp))
  rw [ce]
  refine ⟨?_, He.exm_ok (h3 (.exm y y true) (by simp))⟩
  unfold ExcOk
  rw [ce]
  exact ⟨He.glo_ok X G (h3 (.glo y) (by simp)), k2, k3, k4, _, _, _, _, PySem.F.excBase_ValueError, k1⟩
theorem Told.gok (c : Told x w h K) (X : K.In h) (G : h.Ns mainGlobals mg) (st : x.okB = true) (g gc : Addr) : GOk (x.pl K g gc) mg x.Γ := by
  unfold Tx.okB at st
  simp only [Bool.and_eq_true, List.all_eq_true, decide_eq_true_eq] at st
  obtain ⟨⟨⟨⟨s1, s2⟩, s3⟩, s4⟩, s5⟩ := st
  refine ⟨fun f y hy => ?_, fun j y d hy => ?_, fun e y hy => ?_, fun b hb => ?_, fun f hf => hf, fun f y e hy => ?_⟩
  · have hy : (if x.ds.any (fun i => i.f == f) then x.all.lookup f else none) = some y := hy
    split at hy
    · rename_i q
      have hn : x.nm f = y := by unfold Tx.nm; rw [hy]; rfl
      refine ⟨?_, ?_, (s1 (f, y) (mem_lk hy)).2⟩
      · show mg y = some (.ref (He.ga K (x.nm f)))
        rw [hn]
        exact c.glo X G hy
      · show ∃ i, x.di f = some i
        obtain ⟨i, hi, e⟩ := List.any_eq_true.mp q
        cases z : x.di f with
        | some i => exact ⟨i, rfl⟩
        | none => exact absurd e (by simpa using List.find?_eq_none.mp z i hi)
    · cases hy
  · have hm := mem_lk (show x.csts.lookup j = some (y, d) from hy)
    have hx : x.ex K = true := c.more
    unfold Tx.ex at hx
    simp only [Bool.and_eq_true, List.all_eq_true] at hx
    exact ⟨s2 _ hm, cstB_ok (p := x.pl K g gc) X G (hx.1 _ hm)⟩
  · exact ⟨(s3 _ (mem_lk hy)).1, (c.excOk X G hy g gc).1⟩
  · exact He.free_ok X G (He.SaysD.facts (He.SaysT.d c.t) (List.mem_append_left _ (List.mem_append_right _ (List.mem_map.mpr ⟨b, hb, rfl⟩))))
  · have hm := mem_lk (show x.heard.lookup f = some (y, e) from hy)
    obtain ⟨dd, hdd, hb⟩ := List.any_eq_true.mp (s4 _ hm)
    unfold Tx.heardB at hb
    simp only [Bool.and_eq_true, decide_eq_true_eq] at hb
    obtain ⟨⟨⟨⟨⟨b1, b2⟩, b3⟩, b4⟩, b5⟩, b6⟩ := hb
    obtain ⟨fd, F⟩ := He.SaysD.defs (He.SaysT.d c.t) (d := dd) (List.mem_append_right _ hdd)
    split at b6
    · rename_i a en p1 p2
      simp only [Bool.and_eq_true, decide_eq_true_eq] at b6
      obtain ⟨⟨⟨⟨⟨⟨q1, q2⟩, q3⟩, q4⟩, q5⟩, q6⟩, q7⟩ := b6
      have e1 : dd.dvs K = [] := by unfold He.DefD.dvs; rw [List.isEmpty_iff.mp b4]; rfl
      have e2 : dd.kws K = [] := by unfold He.DefD.kws; rw [List.isEmpty_iff.mp b5]; rfl
      rw [e1, e2, b2, b1, fAd_none] at F
      obtain ⟨oc, od, dV, kV, doc, pm, an, cdv, ct, osl, rfl, lk, hcd, bnd⟩ := FunD.plain F p1 (by simp)
      obtain ⟨x1, x2⟩ := c.excOk X G p2 g gc
      have hF : (x.pl K g gc).F f = He.ga K y := by
        show He.ga K (x.nm f) = _
        unfold Tx.nm
        rw [b3]
        rfl
      refine ⟨q3, ?_, ?_, x2, a, en, [a], dd.qual, dd.params, dd.body, dd.scope, dV, kV, doc, pm, cdv, ct, oc, an, od, osl, ?_, hcd, .all bnd, fnSB_ok q4, rfl, visOk q5, q1, q6, q7, q2, x1.1⟩
      · rw [hF]; exact c.glo X G b3
      · rw [hF]; exact F.kp
      · rw [hF]; exact lk
    · cases b6

/-- a def's table is told -/
theorem Told.lamOk (c : Told x w h K) {base : Heap} {y : Str} (ht : ∀ q ∈ x.tf.map (He.cT K), LamX.TabB base mg q.1 q.2) (hm : (y, none) ∈ x.tf) {oc : Value} {od : Option Addr} {osl : Array (Option Value)} {q : Str} {as : Arguments} {body : List Stmt} {sc : Scope} {dV kV doc pm cdv ct : Value} {an : Option Addr}
    (lk : K.lookup (He.ga K y) = some ⟨oc, od, .func (PySem.W.fnOf y y as body sc dV kV doc pm an cdv ct), osl⟩) (hcd : PySem.W.codeIn K cdv q = true) (g gc : Addr) : LamOk (x.pl K g gc) mg base y cdv := by
  obtain ⟨cd, rfl⟩ := He.codeIn_ref hcd
  have e1 : He.codeOf K (y, none) = cd := He.codeOf_eq (fd := PySem.W.fnOf y y as body sc dV kV doc pm an (.ref cd) ct) lk rfl
  have e2 : (He.cT K (y, none)).1 = cd := e1
  have nd : (x.tf.map fun q => (He.cT K q).2).Nodup := by
    have hx : x.ex K = true := c.more
    unfold Tx.ex at hx
    simp only [Bool.and_eq_true, decide_eq_true_eq] at hx
    exact hx.2
  refine ⟨cd, (He.cT K (y, none)).2, ?_, rfl, List.mem_map.mpr ⟨(y, none), hm, rfl⟩, fun q hq e => ?_⟩
  · have := ht _ (List.mem_map.mpr ⟨(y, none), hm, rfl⟩)
    rw [e2] at this
    exact this
  · obtain ⟨z, hz, rfl⟩ := List.mem_map.mp (show q ∈ x.tf.map fun q => ((He.cT K q).2, (q.1 ++ (".<locals>." : Str)) ++ ("<lambda>" : Str)) from hq)
    have : z = (y, none) := by
      obtain ⟨i, hi, ei⟩ := List.mem_iff_getElem.mp hz
      obtain ⟨j, hj, ej⟩ := List.mem_iff_getElem.mp hm
      have hi' : i < (x.tf.map fun q => (He.cT K q).2).length := by rw [List.length_map]; exact hi
      have hj' : j < (x.tf.map fun q => (He.cT K q).2).length := by rw [List.length_map]; exact hj
      have e5 : i = j := (List.getElem_inj (h₀ := hi') (h₁ := hj') nd).mp (by
        rw [List.getElem_map, List.getElem_map, ei, ej]
        exact e)
      subst e5
      rw [← ei, ej]
    rw [this]
theorem Told.head (c : Told x w h K) (st : x.okB = true) (chk : x.ds.all x.chkB = true) {base : Heap} (ht : ∀ q ∈ x.tf.map (He.cT K), LamX.TabB base mg q.1 q.2) (g gc : Addr) (Wb : Nat) {f : Nat} {i : DI} (hi : x.di f = some i) : HeadD (x.pl K g gc) mg base x.Γ x.Pf Wb f i.d := by
  have hm : i ∈ x.ds := List.mem_of_find?_eq_some hi
  have hf : i.f = f := by simpa using List.find?_some hi
  unfold Tx.okB at st
  simp only [Bool.and_eq_true, List.all_eq_true, decide_eq_true_eq] at st
  obtain ⟨⟨⟨⟨⟨s1, s2⟩, s3⟩, s4⟩, s5⟩, s6⟩ := st.2 i hm
  obtain ⟨fd, F⟩ := He.SaysD.defs (He.SaysT.d c.t) (d := i.dd) (List.mem_append_left _ (List.mem_map.mpr ⟨i, hm, rfl⟩))
  have e1 : i.dd.dvs K = [] := by unfold He.DefD.dvs; rw [List.isEmpty_iff.mp s4]; rfl
  have e2 : i.dd.kws K = [] := by unfold He.DefD.kws; rw [List.isEmpty_iff.mp s5]; rfl
  rw [e1, e2, s2, s3, fAd_none] at F
  have hF : (x.pl K g gc).F f = He.ga K i.dd.name := by
    show He.ga K (x.nm f) = _
    unfold Tx.nm
    rw [← hf, s1]
    rfl
  have hc := List.all_eq_true.mp chk i hm
  unfold Tx.chkB defB at hc
  split at hc
  · rename_i ps hp
    simp only [Bool.and_eq_true, decide_eq_true_eq, List.all_eq_true] at hc
    obtain ⟨⟨⟨⟨⟨⟨c1, c2⟩, c3⟩, c4⟩, c5⟩, c6⟩, c7⟩ := hc
    obtain ⟨oc, od, dV, kV, doc, pm, an, cdv, ct, osl, rfl, lk, hcd, bnd⟩ := FunD.plain F hp c2
    refine ⟨by rw [hF]; exact F.kp, i.dd.name, i.dd.name, i.dd.params, i.dd.body, i.dd.scope, dV, kV, doc, pm, cdv, ct, oc, an, od, osl, i.N, ps, by rw [hF]; exact lk, hcd, fnSB_ok c1, .all bnd, c3, c4, c5, c6, fun tb => ?_, fun C k W X O => ?_⟩
    · have tb : x.tb f = true := tb
      rw [hf, tb] at s6
      exact c.lamOk ht (by simpa using s6) lk hcd g gc
    · rw [hf] at c7
      exact chkSL_ok O i.d.body c7
  · cases hc
/-- every def, at every depth -/
theorem Told.fns (c : Told x w h K) {P : Program} (X : K.In h) (G : h.Ns mainGlobals mg) (st : x.okB = true) (chk : x.ds.all x.chkB = true) {base : Heap} (ht : ∀ q ∈ x.tf.map (He.cT K), LamX.TabB base mg q.1 q.2) (g gc : Addr) (Wb : Nat) :
    ∀ k f, (x.pl K g gc).ok f → FnG P w mg base (x.pl K g gc) (callN x.Pf Wb k) k f
  | 0, f, ⟨i, hi⟩ => by
    obtain ⟨keep, name, qual, params, body, scope, dV, kV, doc, pm, cdv, ct, oc, an, od, osl, N, ps, lk, hcd, S, hb, hps, hN, hle, hpl, htb, hbody⟩ := c.head st chk ht g gc Wb hi
    exact ⟨keep, _, ps, hb, fun _ _ _ => rfl, fun A outer s H args us vs Q E _ _ _ _ _ ⟨ds, fps, B, _, _, z⟩ => z.elim⟩
  | k + 1, f, ⟨i, hi⟩ => by
    have hP : x.Pf f = some (.py i.d) := by unfold Tx.Pf; rw [hi]
    exact fn_py (c.head st chk ht g gc Wb hi) hP (c.gok X G st g gc) fun f' hf' => Told.fns c X G st chk ht g gc Wb k f' hf'
end
/-! ### the law -/
/-- what the law's own text must be -/
structure LawI where
  N : List Str
  n : Nat
  r : SL
  j : Nat
  tb : Bool
def lawStB (z s b : Str) : Stmt → Bool
  | .Assign [.Name y _] (.Call (.Name f _) [.Name a _] [] _) _ => decide (y = b) && decide (f = z) && decide (a = s)
  | _ => false
theorem lawSt_of {z s b : Str} {st : Stmt} (h : lawStB z s b st = true) : ∃ q1 q2 q3 q4 q5, st = .Assign [.Name b q1] (.Call (.Name z q2) [.Name s q3] [] q4) q5 := by
  unfold lawStB at h
  split at h
  · simp only [Bool.and_eq_true, decide_eq_true_eq] at h
    obtain ⟨⟨rfl, rfl⟩, rfl⟩ := h
    exact ⟨_, _, _, _, _, rfl⟩
  · cases h
def plainDefB (d : He.DefD) : Bool := decide (d.at_ = (d.name, none)) && decide (d.qual = d.name) && d.dfl.isEmpty && d.kwd.isEmpty
def bagDefB (x : Tx) : Bool := plainDefB x.bag && decide (parB x.bag.params = some [Str.ofString "script"]) && fnSB [Str.ofString "script", Str.ofString "cell"] [Str.ofString "script"] x.bag.scope && bagB x.bag.body x.bag.scope && (x.all.any fun q => decide (q.2 = x.bag.name))
def lawDefB (x : Tx) (l : LawI) : Bool := plainDefB x.law && decide (x.law.name = Str.ofString "law") && (match parB x.law.params, x.law.body, l.N[0]?, l.N[l.j]? with
  | some [s], st :: rest, some s', some b => decide (s' = s) && lawStB x.bag.name s b st && fnSB l.N [s] x.law.scope && decide (l.N.length = l.n) && l.N.all plainN && visB x.law.scope s && locB x.law.scope b && glB x.law.scope x.bag.name && plainN x.bag.name && decide (l.j < l.n) && decide (1 ≤ l.n) &&
      (!l.tb || x.tf.contains (x.law.name, none)) && chkSL l.N { x.Γ with gd := true, lm := true, tb := l.tb } x.law.scope l.r rest
  | _, _, _, _ => false)
section
variable {x : Tx} {w : World} {h : Heap} {K : PySem.W.Frag} {mg : Str → Option Value}
theorem Told.gloN (c : Told x w h K) (X : K.In h) (G : h.Ns mainGlobals mg) {y : Str} (hy : (x.all.any fun q => decide (q.2 = y)) = true) : mg y = some (.ref (He.ga K y)) := by
  obtain ⟨q, hq, e⟩ := List.any_eq_true.mp hy
  have e := of_decide_eq_true e
  subst e
  exact He.glo_ok X G (He.SaysD.facts (He.SaysT.d c.t) (List.mem_append_left _ (List.mem_append_left _ (List.mem_map.mpr ⟨q, hq, rfl⟩))))
theorem Told.def0 (c : Told x w h K) {d : He.DefD} (hd : d ∈ x.fnl) (hp : plainDefB d = true) : ∃ fd, FunD K d.name d.name d.params d.body d.scope [] [] (He.ga K d.name) fd := by
  unfold plainDefB at hp
  simp only [Bool.and_eq_true, decide_eq_true_eq] at hp
  obtain ⟨⟨⟨h1, h2⟩, h3⟩, h4⟩ := hp
  obtain ⟨fd, F⟩ := He.SaysD.defs (He.SaysT.d c.t) hd
  have e1 : d.dvs K = [] := by unfold He.DefD.dvs; rw [List.isEmpty_iff.mp h3]; rfl
  have e2 : d.kws K = [] := by unfold He.DefD.kws; rw [List.isEmpty_iff.mp h4]; rfl
  rw [e1, e2, h1, h2, fAd_none] at F
  exact ⟨fd, F⟩
/-- the law's call -/
theorem Told.run (c : Told x w h K) {P : Program} {l : LawI} {k Wb : Nat} {fa : Addr} (X : K.In h) (G : h.Ns mainGlobals mg) (st : x.okB = true) (chk : x.ds.all x.chkB = true) (hb : bagDefB x = true) (hl : lawDefB x l = true) (hroom : Room (3 * k + 3) callerA) (hfa : mg (Str.ofString "law") = some (.ref fa)) (hga : mg (Str.ofString "law") = some (.ref (He.ga K (Str.ofString "law"))))
    (hev : ∀ ns : List Int, ns.length ≤ 63 → ∃ fl B', exL (callN x.Pf Wb k) Wb l.r [] (env0 l.j l.n) (bag0 ns) = .ret ⟨.bl true, fl⟩ B' ∧ fl.lent = false) : LawRun P w 63 mg fa h K (x.tf.map (He.cT K)) where
  inK := X
  tab := fun q hq => by
    obtain ⟨z, hz, rfl⟩ := List.mem_map.mp hq
    exact c.empty z hz
  tabK := fun q hq => by
    obtain ⟨z, hz, rfl⟩ := List.mem_map.mp hq
    exact c.out z hz
  code := fun q hq => by
    obtain ⟨z, hz, rfl⟩ := List.mem_map.mp hq
    exact PySem.W.codeHd_of_K X (c.hd z hz)
  run := by
    intro s1 a ns hh hlen _ base H e0 ht htbl hs
    have efa : fa = He.ga K (Str.ofString "law") := by
      have := hfa.symm.trans hga
      cases this
      rfl
    subst efa
    unfold lawDefB at hl
    simp only [Bool.and_eq_true, decide_eq_true_eq] at hl
    obtain ⟨⟨l1, l2⟩, l3⟩ := hl
    split at l3
    · rename_i s st1 rest s' b p1 p2 p3 p4
      simp only [Bool.and_eq_true, Bool.or_eq_true, decide_eq_true_eq, List.all_eq_true] at l3
      obtain ⟨⟨⟨⟨⟨⟨⟨⟨⟨⟨⟨⟨rfl, m1⟩, m2⟩, m3⟩, m4⟩, m5⟩, m6⟩, m7⟩, m8⟩, m9⟩, m10⟩, m11⟩, m12⟩ := l3
      obtain ⟨q1, q2, q3, q4, q5, rfl⟩ := lawSt_of m1
      obtain ⟨fd, F⟩ := c.def0 (d := x.law) (List.mem_append_right _ (by unfold Tx.more; simp)) l1
      rw [l2] at F
      obtain ⟨oc, od, dV, kV, doc, pm, an, cdv, ct, osl, rfl, lk, hcd, bnd⟩ := FunD.plain F p1 (by simp)
      unfold bagDefB at hb
      simp only [Bool.and_eq_true, decide_eq_true_eq] at hb
      obtain ⟨⟨⟨⟨b1, b2⟩, b3⟩, b4⟩, b5⟩ := hb
      obtain ⟨fdb, Fb⟩ := c.def0 (d := x.bag) (List.mem_append_right _ (by unfold Tx.more; simp)) b1
      obtain ⟨oc2, od2, dV2, kV2, doc2, pm2, an2, cdv2, ct2, osl2, rfl, lk2, hcd2, bnd2⟩ := FunD.plain Fb b2 (by simp)
      have mAbs : mg (Str.ofString "abs") = none := (c.gok X G st 0 0).blt "abs" (by decide)
      obtain ⟨fl, B', ev, nl⟩ := hev ns hlen
      rw [p2] at lk bnd
      have hT : LamX.Tabs (x.pl K 0 0).T H := fun q hq => by
        obtain ⟨z, hz, rfl⟩ := List.mem_map.mp (show q ∈ x.tf.map fun q => ((He.cT K q).2, (q.1 ++ (".<locals>." : Str)) ++ ("<lambda>" : Str)) from hq)
        exact LamX.TabS.nil (htbl _ (List.mem_map.mpr ⟨z, hz, rfl⟩))
      refine law_go (p := x.pl K 0 0) (Γ := x.Γ) (k := k) (tbl := l.tb) lk hcd (fnSB_ok m2) m3 m10 m4 hroom e0 ?_ (fun g gc => c.gok X G st g gc) (fun g gc f hf => c.fns X G st chk ht g gc Wb k f hf) (fun E => ?_) m12 hs hlen hT (fun z => ?_) m9 ev nl
      · exact .of_eq (bnd [.ref a] rfl)
      · have FB := fn_bag (CX := CX0) (P := P) (w := w) (mg := mg) (base := base) (k := 0) lk2 hcd2 (fnSB_ok b3) b4 mAbs
        exact bag_ps FB ((Room.deeper (k := 3 * k + 2) hroom _).mono (by omega)) (glOk rfl m7) (c.gloN X G b5) Fb.kp (.all bnd2) (fnSB_ok m2).nd p3 p4 (visOk m5) (locOk m6) rfl m8 (m4 _ (List.mem_of_getElem? p3))
      · rcases m11 with q | q
        · rw [z] at q; cases q
        · rw [l2] at q
          exact c.lamOk ht (by simpa using q) lk hcd 0 0
    · cases l3
end
end Wh

set_option maxHeartbeats 1000000
/-! Wh, plain part 0: how what is computed is told. -/
namespace Wh
open PySem
def outR (o : Out) : Res RV := match o with
  | .ret r B => .ok r B
  | .nx _ B => .ok ⟨.non, .D⟩ B
  | .exc x B => .exc x B
  | _ => .st
theorem callN_py {Pf : Nat → Option Fn} {W k f : Nat} {d : Def} {ds : List D} {B : Bag} (h : Pf f = some (.py d)) (hl : ds.length = d.np) : callN Pf W (k + 1) f ds B = outR (exL (callN Pf W k) W d.body [] (ds.map (fun x => some (.S, x)) ++ List.replicate (d.ns - d.np) none) B) := by
  simp only [callN, h, hl, if_true]
  cases exL (callN Pf W k) W d.body [] (ds.map (fun x => some (.S, x)) ++ List.replicate (d.ns - d.np) none) B <;> rfl
theorem flatL_iff : ∀ {l : List D}, D.flatL l = true ↔ ∀ d ∈ l, d.flat = true
  | [] => by simp [D.flatL]
  | d :: r => by simp [D.flatL, flatL_iff]
theorem isPL_iff : ∀ {l : List D}, D.isPL l = true ↔ ∀ d ∈ l, d.isP = true
  | [] => by simp [D.isPL]
  | d :: r => by simp [D.isPL, isPL_iff]
theorem depL_le : ∀ {l : List D} {n : Nat}, D.depL l ≤ n ↔ ∀ d ∈ l, d.dep ≤ n
  | [], n => by simp [D.depL]
  | d :: r, n => by
    have : D.depL (d :: r) = max d.dep (D.depL r) := rfl
    rw [this, Nat.max_le, depL_le]
    simp
theorem flat_tup {l : List D} : D.flat (.tup l) = D.flatL l := rfl
theorem flat_pr {l : List D} : D.flat (.pr l) = D.flatL l := rfl
theorem flat_lst {l : List D} : D.flat (.lst l) = false := rfl
theorem flat_dct {l : List (L2.Key × D)} : D.flat (.dct l) = false := rfl
theorem flat_int {i : Int} : D.flat (.int i) = true := rfl
theorem flat_str {i : Str} : D.flat (.str i) = true := rfl
theorem flat_bl {i : Bool} : D.flat (.bl i) = true := rfl
theorem flat_non : D.flat .non = true := rfl
theorem flat_bag : D.flat .bag = true := rfl
theorem flatL_nil : D.flatL [] = true := rfl
theorem flatL_cons {d : D} {r : List D} : D.flatL (d :: r) = (d.flat && D.flatL r) := rfl
theorem get_0 {x : Option (Md × D)} {r : Env} : Env.get (x :: r) 0 = x := rfl
theorem get_s {x : Option (Md × D)} {r : Env} {n : Nat} : Env.get (x :: r) (n + 1) = Env.get r n := rfl
theorem put_0 {x : Option (Md × D)} {r : Env} {m : Md} {d : D} : Env.put (x :: r) 0 m d = some (m, d) :: r := rfl
theorem put_s {x : Option (Md × D)} {r : Env} {n : Nat} {m : Md} {d : D} : Env.put (x :: r) (n + 1) m d = x :: Env.put r n m d := rfl
theorem wipe_nil {δ : Env} : Env.wipe δ [] = δ := rfl
theorem wipe_cons {δ : Env} {i : Nat} {r : List Nat} : Env.wipe δ (i :: r) = (Env.wipe δ r).set i none := rfl
theorem ofRes_ok {α : Type} {a : α} {B : Bag} {f : α → Bag → Out} : ofRes (.ok a B) f = f a B := rfl
theorem ofRes_exc {α : Type} {x : Exn} {B : Bag} {f : α → Bag → Out} : ofRes (.exc x B) f = .exc x B := rfl
theorem exc_bind {α β : Type} {x : Exn} {B : Bag} {f : α → Bag → Res β} : (Res.exc x B).bind f = .exc x B := rfl
theorem opt_some {α : Type} {a : α} {B : Bag} : opt (some a) B = .ok a B := rfl
theorem outR_ret {r : RV} {B : Bag} : outR (.ret r B) = .ok r B := rfl
theorem outR_nx {δ : Env} {B : Bag} : outR (.nx δ B) = .ok ⟨.non, .D⟩ B := rfl
theorem outR_exc {x : Exn} {B : Bag} : outR (.exc x B) = .exc x B := rfl
theorem noexc_ok {α : Type} {a : α} {B : Bag} : noexc (.ok a B) = .ok a B := rfl
/-- a call that gives what is flat -/
theorem callR_flat {C : Cs} {f : Nat} {xs : List RV} {B B' : Bag} {d : D} {fl : Fl} (h : C f (xs.map (·.d)) B = .ok ⟨d, fl⟩ B') (hf : d.flat = true) : callR C f xs B = .ok ⟨d, .D⟩ B' := by
  unfold callR
  rw [h]
  dsimp only
  rw [if_pos hf]
theorem callR_D {C : Cs} {f : Nat} {xs : List RV} {B B' : Bag} {d : D} (h : C f (xs.map (·.d)) B = .ok ⟨d, .D⟩ B') : callR C f xs B = .ok ⟨d, .D⟩ B' := by
  unfold callR
  rw [h]
  dsimp only
  split <;> rfl
theorem callR_exc {C : Cs} {f : Nat} {xs : List RV} {B B' : Bag} {x : Exn} (h : C f (xs.map (·.d)) B = .exc x B') : callR C f xs B = .exc x B' := by
  unfold callR
  rw [h]
/-! ### comprehensions and walks -/
inductive Pd {α β : Type} (Q : α → β → Prop) : List α → List β → Prop
  | nil : Pd Q [] []
  | cons {a : α} {b : β} {l : List α} {r : List β} : Q a b → Pd Q l r → Pd Q (a :: l) (b :: r)
theorem compGo_ok {f : D → Bag → Res (List RV)} {g : D → List RV} {B : Bag} : ∀ {l : List D}, (∀ d ∈ l, f d B = .ok (g d) B) → compGo f l B = .ok (l.flatMap g) B
  | [], _ => rfl
  | d :: r, h => by
    show (noexc (f d B)).bind _ = _
    rw [h d List.mem_cons_self, noexc_ok, ok_bind, compGo_ok (fun e he => h e (List.mem_cons_of_mem _ he)), ok_bind]
    rfl
theorem compGo_map {f : D → Bag → Res (List RV)} {g : D → RV} {B : Bag} {l : List D} (h : ∀ d ∈ l, f d B = .ok [g d] B) : compGo f l B = .ok (l.map g) B := by
  rw [compGo_ok (g := fun d => [g d]) h]
  congr 1
  induction l with
  | nil => rfl
  | cons d r ih => rw [List.flatMap_cons, ih fun e he => h e (List.mem_cons_of_mem _ he)]; rfl
/-- draws within a comprehension: what is known of the bag stays known -/
theorem compGo_draw {f : D → Bag → Res (List RV)} {P : Bag → Prop} {Q : D → List RV → Prop} : ∀ {l : List D} {B : Bag}, P B → (∀ d ∈ l, ∀ B, P B → ∃ xs B', f d B = .ok xs B' ∧ Q d xs ∧ P B') → ∃ xss B', compGo f l B = .ok xss.flatten B' ∧ P B' ∧ Pd Q l xss
  | [], B, hp, _ => ⟨[], B, rfl, hp, .nil⟩
  | d :: r, B, hp, h => by
    obtain ⟨xs, B1, h1, h2, h3⟩ := h d List.mem_cons_self B hp
    obtain ⟨xss, B2, h4, h5, h6⟩ := compGo_draw h3 fun e he => h e (List.mem_cons_of_mem _ he)
    refine ⟨xs :: xss, B2, ?_, h5, .cons h2 h6⟩
    show (noexc (f d B)).bind _ = _
    rw [h1, noexc_ok, ok_bind, h4, ok_bind]
    rfl
theorem cap_of {l : List RV} {B : Bag} (h : l.length ≤ 1000000) : cap (.ok l B) = .ok l B := if_pos h
theorem flagL_D {l : List RV} (h : l.length ≤ 1000000) (hf : ∀ r ∈ l, r.f = .D) : flagL l = some ⟨.lst (l.map (·.d)), .D⟩ := by
  unfold flagL
  rw [if_neg (by omega), if_pos (by rw [List.all_eq_true]; exact fun r hr => by simp [hf r hr])]
theorem flagU_D {l : List RV} (h : l.length ≤ 1000000) (hf : ∀ r ∈ l, r.f = .D) : flagU l = some ⟨.tup (l.map (·.d)), .D⟩ := by
  unfold flagU
  rw [if_neg (by omega), if_pos (by rw [List.all_eq_true]; exact fun r hr => by simp [hf r hr])]
theorem compGo_mapf {α : Type} {f : D → Bag → Res (List RV)} {h : α → D} {g : α → RV} {B : Bag} {l : List α} (st : ∀ q ∈ l, f (h q) B = .ok [g q] B) : compGo f (l.map h) B = .ok (l.map g) B := by
  induction l with
  | nil => rfl
  | cons q r ih =>
    show (noexc (f (h q) B)).bind _ = _
    rw [st q List.mem_cons_self, noexc_ok, ok_bind, ih fun e he => st e (List.mem_cons_of_mem _ he), ok_bind]
    rfl
/-- a list comprehension, its items new -/
theorem comp_D {α : Type} {F : D → Bag → Res (List RV)} {h g : α → D} {B : Bag} {l : List α} {k : RV → Bag → Res RV} (hl : l.length ≤ 1000000) (st : ∀ q ∈ l, F (h q) B = .ok [⟨g q, .D⟩] B) : ((cap (compGo F (l.map h) B)).bind fun l B => (opt (flagL l) B).bind k) = k ⟨.lst (l.map g), .D⟩ B := by
  rw [compGo_mapf (g := fun q => ⟨g q, .D⟩) st, cap_of (by rw [List.length_map]; exact hl), ok_bind, flagL_D (by rw [List.length_map]; exact hl) (fun r hr => by
    obtain ⟨q, _, rfl⟩ := List.mem_map.mp hr
    rfl), opt_some, ok_bind, List.map_map]
  rfl
theorem lent_D : Fl.lent .D = false := rfl
theorem lent_R : Fl.lent .R = false := rfl
theorem lent_S : Fl.lent .S = false := rfl
theorem lent_BR : Fl.lent .BR = true := rfl
theorem lent_BD : Fl.lent .BD = true := rfl
theorem fU0 : flagU [] = some ⟨.tup [], .D⟩ := rfl
theorem fL0 : flagL [] = some ⟨.lst [], .D⟩ := rfl
theorem fU1 {a0 : D} : flagU [⟨a0, .D⟩] = some ⟨.tup [a0], .D⟩ := rfl
theorem fL1 {a0 : D} : flagL [⟨a0, .D⟩] = some ⟨.lst [a0], .D⟩ := rfl
theorem fU2 {a0 a1 : D} : flagU [⟨a0, .D⟩, ⟨a1, .D⟩] = some ⟨.tup [a0, a1], .D⟩ := rfl
theorem fL2 {a0 a1 : D} : flagL [⟨a0, .D⟩, ⟨a1, .D⟩] = some ⟨.lst [a0, a1], .D⟩ := rfl
theorem fU3 {a0 a1 a2 : D} : flagU [⟨a0, .D⟩, ⟨a1, .D⟩, ⟨a2, .D⟩] = some ⟨.tup [a0, a1, a2], .D⟩ := rfl
theorem fL3 {a0 a1 a2 : D} : flagL [⟨a0, .D⟩, ⟨a1, .D⟩, ⟨a2, .D⟩] = some ⟨.lst [a0, a1, a2], .D⟩ := rfl
theorem fU4 {a0 a1 a2 a3 : D} : flagU [⟨a0, .D⟩, ⟨a1, .D⟩, ⟨a2, .D⟩, ⟨a3, .D⟩] = some ⟨.tup [a0, a1, a2, a3], .D⟩ := rfl
theorem fL4 {a0 a1 a2 a3 : D} : flagL [⟨a0, .D⟩, ⟨a1, .D⟩, ⟨a2, .D⟩, ⟨a3, .D⟩] = some ⟨.lst [a0, a1, a2, a3], .D⟩ := rfl
theorem fU5 {a0 a1 a2 a3 a4 : D} : flagU [⟨a0, .D⟩, ⟨a1, .D⟩, ⟨a2, .D⟩, ⟨a3, .D⟩, ⟨a4, .D⟩] = some ⟨.tup [a0, a1, a2, a3, a4], .D⟩ := rfl
theorem fL5 {a0 a1 a2 a3 a4 : D} : flagL [⟨a0, .D⟩, ⟨a1, .D⟩, ⟨a2, .D⟩, ⟨a3, .D⟩, ⟨a4, .D⟩] = some ⟨.lst [a0, a1, a2, a3, a4], .D⟩ := rfl
theorem fU6 {a0 a1 a2 a3 a4 a5 : D} : flagU [⟨a0, .D⟩, ⟨a1, .D⟩, ⟨a2, .D⟩, ⟨a3, .D⟩, ⟨a4, .D⟩, ⟨a5, .D⟩] = some ⟨.tup [a0, a1, a2, a3, a4, a5], .D⟩ := rfl
theorem fL6 {a0 a1 a2 a3 a4 a5 : D} : flagL [⟨a0, .D⟩, ⟨a1, .D⟩, ⟨a2, .D⟩, ⟨a3, .D⟩, ⟨a4, .D⟩, ⟨a5, .D⟩] = some ⟨.lst [a0, a1, a2, a3, a4, a5], .D⟩ := rfl
theorem fU7 {a0 a1 a2 a3 a4 a5 a6 : D} : flagU [⟨a0, .D⟩, ⟨a1, .D⟩, ⟨a2, .D⟩, ⟨a3, .D⟩, ⟨a4, .D⟩, ⟨a5, .D⟩, ⟨a6, .D⟩] = some ⟨.tup [a0, a1, a2, a3, a4, a5, a6], .D⟩ := rfl
theorem fL7 {a0 a1 a2 a3 a4 a5 a6 : D} : flagL [⟨a0, .D⟩, ⟨a1, .D⟩, ⟨a2, .D⟩, ⟨a3, .D⟩, ⟨a4, .D⟩, ⟨a5, .D⟩, ⟨a6, .D⟩] = some ⟨.lst [a0, a1, a2, a3, a4, a5, a6], .D⟩ := rfl
theorem fU8 {a0 a1 a2 a3 a4 a5 a6 a7 : D} : flagU [⟨a0, .D⟩, ⟨a1, .D⟩, ⟨a2, .D⟩, ⟨a3, .D⟩, ⟨a4, .D⟩, ⟨a5, .D⟩, ⟨a6, .D⟩, ⟨a7, .D⟩] = some ⟨.tup [a0, a1, a2, a3, a4, a5, a6, a7], .D⟩ := rfl
theorem fL8 {a0 a1 a2 a3 a4 a5 a6 a7 : D} : flagL [⟨a0, .D⟩, ⟨a1, .D⟩, ⟨a2, .D⟩, ⟨a3, .D⟩, ⟨a4, .D⟩, ⟨a5, .D⟩, ⟨a6, .D⟩, ⟨a7, .D⟩] = some ⟨.lst [a0, a1, a2, a3, a4, a5, a6, a7], .D⟩ := rfl
/-- a walk that goes on to its end -/
theorem forGo_inv {f : D → Env → Bag → Out} (I : List D → Env → Bag → Prop) : ∀ {l : List D} {δ : Env} {B : Bag}, I l δ B → (∀ d r δ B, I (d :: r) δ B → ∃ δ' B', f d δ B = .nx δ' B' ∧ I r δ' B') → ∃ δ' B', forGo f l δ B = .nx δ' B' ∧ I [] δ' B'
  | [], δ, B, h, _ => ⟨δ, B, rfl, h⟩
  | d :: r, δ, B, h, st => by
    obtain ⟨δ1, B1, h1, h2⟩ := st d r δ B h
    obtain ⟨δ2, B2, h3, h4⟩ := forGo_inv I h2 st
    exact ⟨δ2, B2, by show (match f d δ B with | .nx δ B => forGo f r δ B | .cnt δ B => forGo f r δ B | .brk δ B => .nx δ B | o => o) = _; rw [h1]; exact h3, h4⟩
/-! ### the forms one by one -/
section
variable {C : Cs} {W : Nat} {δ : Env} {B : Bag} {lk : List Nat} {t : Bool}
theorem evq_v {i : Nat} : ev C (.v i) t δ B = match slot δ i with | some r => asTest t r B | none => .st := rfl
theorem evq_k {d : D} : ev C (.k d) t δ B = asTest t ⟨d, .D⟩ B := rfl
theorem evq_gc {j : Nat} {d : D} : ev C (.gc j d) t δ B = asTest t ⟨d, .D⟩ B := rfl
theorem evq_tup {l : EL} : ev C (.tup l) t δ B = (evL C l δ B).bind fun xs B => (opt (flagU xs) B).bind fun r B => asTest t r B := rfl
theorem evq_lst {l : EL} : ev C (.lst l) t δ B = (evL C l δ B).bind fun xs B => (opt (flagL xs) B).bind fun r B => asTest t r B := rfl
theorem evq_o2 {o : O2} {a b : E} : ev C (.o2 o a b) t δ B = (ev C a false δ B).bind fun x B => (ev C b false δ B).bind fun y B => (opt (o2F o x y) B).bind fun r B => asTest t r B := rfl
theorem evq_ch {o p : O2} {a b c : E} : ev C (.ch o p a b c) t δ B = (ev C a false δ B).bind fun x B => (ev C b false δ B).bind fun y B => match cmpF o x y with
    | some true => (ev C c false δ B).bind fun z B => bRes (cmpF p y z) B
    | some false => .ok ⟨.bl false, .D⟩ B
    | none => .st := rfl
theorem evq_neg {a : E} : ev C (.neg a) t δ B = (ev C a false δ B).bind fun x B => match x.d with
    | .int i => asTest t ⟨.int (-i), .D⟩ B
    | _ => .st := rfl
theorem evq_nt {a : E} : ev C (.nt a) t δ B = (ev C a true δ B).bind fun x B => match x.d with
    | .bl b => .ok ⟨.bl (!b), .D⟩ B
    | _ => .st := rfl
theorem evq_an {l : EL} : ev C (.an l) t δ B = evAn C l t δ B := rfl
theorem evq_or {l : EL} : ev C (.or l) t δ B = evOr C l t δ B := rfl
theorem evq_ife {c a b : E} : ev C (.ife c a b) t δ B = (ev C c true δ B).bind fun x B => match x.d with
    | .bl true => ev C a t δ B
    | .bl false => ev C b t δ B
    | _ => .st := rfl
theorem evq_ix {a i : E} : ev C (.ix a i) t δ B = (ev C a false δ B).bind fun x B => (ev C i false δ B).bind fun y B => (opt (ixF x y) B).bind fun r B => asTest t r B := rfl
theorem evq_sl {a : E} {lo hi : OE} : ev C (.sl a lo hi) t δ B = (ev C a false δ B).bind fun x B => (evO C lo δ B).bind fun l B => (evO C hi δ B).bind fun h B => (opt (slF x l h) B).bind fun r B => asTest t r B := rfl
theorem evq_call {f : Nat} {l : EL} : ev C (.call f l) t δ B = (evL C l δ B).bind fun xs B => (callR C f xs B).bind fun r B => asTest t r B := rfl
theorem evq_bi {b : Bi} {l : EL} : ev C (.bi b l) t δ B = (evL C l δ B).bind fun xs B => (opt (biF b xs) B).bind fun r B => asTest t r B := rfl
theorem evq_isi {a : E} {ty : Ty} : ev C (.isi a ty) t δ B = (ev C a false δ B).bind fun x B => bRes (isTy x.d ty) B := rfl
theorem evq_me {m : Me} {a : E} {l : EL} : ev C (.me m a l) t δ B = (ev C a false δ B).bind fun x B => if meOk m x then (evL C l δ B).bind fun xs B => (opt (meF m x xs) B).bind fun r B => asTest t r B else .st := rfl
theorem evq_bg {x j : Nat} : ev C (.bg x j) t δ B = match δ.get x with
    | some (_, .bag) => (opt (bagAt B j) B).bind fun r B => asTest t r B
    | _ => .st := rfl
theorem evq_heard {f c : Nat} {e : E} : ev C (.heard f c e) t δ B = match ev C e false δ B with
    | .ok r B => (opt (flagU [⟨.str told, .D⟩, r]) B).bind fun r B => asTest t r B
    | .exc x B => if x.c = c then asTest t ⟨.tup [.str nothing_], .D⟩ B else .st
    | .st => .st := rfl
/-- a turn of a comprehension -/
def turn (C : Cs) (ws : List Nat) (elt : E) (t : Tg) (c : EL) (δ : Env) (d : D) (B : Bag) : Res (List RV) := match asgTg t ⟨d, .S⟩ (δ.wipe ws) with
  | some δ' => (evC C c δ' B).bind fun ok B => if ok then (ev C elt false δ' B).bind fun r B => if r.f.lent then .st else .ok [r] B else .ok [] B
  | none => .st
theorem evq_comp {ws : List Nat} {elt : E} {tg : Tg} {s : Src} {c : EL} : ev C (.comp ws elt (.one tg s c)) t δ B = ((evS C false s δ B).bind fun l B => cap (compGo (turn C ws elt tg c δ) l B)).bind fun l B => (opt (flagL l) B).bind fun r B => asTest t r B := rfl
def dturn (C : Cs) (ws : List Nat) (ke ve : E) (t : Tg) (c : EL) (δ : Env) (d : D) (B : Bag) : Res (List RV) := match asgTg t ⟨d, .S⟩ (δ.wipe ws) with
  | some δ' => (evC C c δ' B).bind fun ok B => if ok then (ev C ke false δ' B).bind fun a B => (ev C ve false δ' B).bind fun r B => match keyOf a.d with
      | some _ => if r.d.flat then .ok [⟨.pr [a.d, r.d], .D⟩] B else .st
      | none => .st
    else .ok [] B
  | none => .st
theorem evq_dcomp {ws : List Nat} {ke ve : E} {tg : Tg} {s : Src} {c : EL} : ev C (.dcomp ws ke ve (.one tg s c)) t δ B = ((evS C false s δ B).bind fun l B => cap (compGo (dturn C ws ke ve tg c δ) l B)).bind fun l B => (opt (dctOf l []) B).bind fun r B => asTest t ⟨.dct r, .D⟩ B := rfl
theorem exL_nil : exL C W .nil lk δ B = .nx δ B := rfl
theorem exL_cons {s : S} {r : SL} : exL C W (.cons s r) lk δ B = match exS C W s lk δ B with
    | .nx δ B => exL C W r lk δ B
    | o => o := rfl
theorem peel {s : S} {r : SL} {δ' : Env} {B' : Bag} (h : exS C W s lk δ B = .nx δ' B') : exL C W (.cons s r) lk δ B = exL C W r lk δ' B' := by rw [exL_cons, h]
/-- statements that end in a value -/
def To (o : Out) (P : RV → Bag → Prop) : Prop := ∃ r B, outR o = .ok r B ∧ P r B
def NxTo (o : Out) (Q : Env → Bag → Prop) : Prop := ∃ δ B, o = .nx δ B ∧ Q δ B
def EvTo {α : Type} (r : Res α) (Q : α → Bag → Prop) : Prop := ∃ v B, r = .ok v B ∧ Q v B
theorem To.cons {s : S} {r : SL} {P : RV → Bag → Prop} {Q : Env → Bag → Prop} (h : NxTo (exS C W s lk δ B) Q) (k : ∀ δ B, Q δ B → To (exL C W r lk δ B) P) : To (exL C W (.cons s r) lk δ B) P := by
  obtain ⟨δ', B', e, q⟩ := h
  rw [exL_cons, e]
  exact k δ' B' q
theorem NxTo.cons {s : S} {r : SL} {P Q : Env → Bag → Prop} (h : NxTo (exS C W s lk δ B) Q) (k : ∀ δ B, Q δ B → NxTo (exL C W r lk δ B) P) : NxTo (exL C W (.cons s r) lk δ B) P := by
  obtain ⟨δ', B', e, q⟩ := h
  rw [exL_cons, e]
  exact k δ' B' q
theorem NxTo.nil {P : Env → Bag → Prop} (h : P δ B) : NxTo (exL C W .nil lk δ B) P := ⟨δ, B, rfl, h⟩
theorem NxTo.of {o : Out} {P : Env → Bag → Prop} (e : o = .nx δ B) (h : P δ B) : NxTo o P := ⟨δ, B, e, h⟩
theorem NxTo.mono {o : Out} {P Q : Env → Bag → Prop} (h : NxTo o Q) (k : ∀ δ B, Q δ B → P δ B) : NxTo o P := let ⟨δ, B, e, q⟩ := h; ⟨δ, B, e, k δ B q⟩
theorem To.of {o : Out} {P : RV → Bag → Prop} {r : RV} (e : outR o = .ok r B) (h : P r B) : To o P := ⟨r, B, e, h⟩
theorem EvTo.bind {α β : Type} {r : Res α} {f : α → Bag → Res β} {Q : α → Bag → Prop} {P : β → Bag → Prop} (h : EvTo r Q) (k : ∀ a B, Q a B → EvTo (f a B) P) : EvTo (r.bind f) P := by
  obtain ⟨a, B', e, q⟩ := h
  rw [e, ok_bind]
  exact k a B' q
theorem EvTo.of {α : Type} {r : Res α} {Q : α → Bag → Prop} {a : α} (e : r = .ok a B) (h : Q a B) : EvTo r Q := ⟨a, B, e, h⟩
theorem EvTo.mono {α : Type} {r : Res α} {Q P : α → Bag → Prop} (h : EvTo r Q) (k : ∀ a B, Q a B → P a B) : EvTo r P := let ⟨a, B, e, q⟩ := h; ⟨a, B, e, k a B q⟩
/-- name = e -/
theorem asg_to {e : E} {tg : Tg} {Q : RV → Bag → Prop} {P : Env → Bag → Prop} (hv : (match tg with | .n _ => e.isV | _ => false) = false) (h : EvTo (ev C e false (freeze δ (occ e 2)) B) Q) (k : ∀ r B, Q r B → ∃ δ', asgTg tg r (freeze δ (occ e 2)) = some δ' ∧ P δ' B) : NxTo (exS C W (.asg tg e) lk δ B) P := by
  obtain ⟨r, B', e1, q⟩ := h
  obtain ⟨δ', e2, p⟩ := k r B' q
  refine ⟨δ', B', ?_, p⟩
  rw [exS_asg hv, e1, ofRes_ok, e2]
/-- a def's call -/
theorem call_to {Pf : Nat → Option Fn} {k f : Nat} {d : Def} {ds : List D} {P : RV → Bag → Prop} (h : Pf f = some (.py d)) (hl : ds.length = d.np) (t : To (exL (callN Pf W k) W d.body [] (ds.map (fun x => some (.S, x)) ++ List.replicate (d.ns - d.np) none) B) P) : EvTo (callN Pf W (k + 1) f ds B) P := by
  obtain ⟨r, B', e, p⟩ := t
  exact ⟨r, B', by rw [callN_py h hl]; exact e, p⟩
/-- a comprehension with draws -/
theorem comp_to {ws : List Nat} {elt : E} {tg : Tg} {s : Src} {c : EL} {l : List D} {P : Bag → Prop} {Q : D → List RV → Prop} (hs : evS C false s δ B = .ok l B) (hp : P B) (st : ∀ d ∈ l, ∀ B, P B → ∃ xs B', turn C ws elt tg c δ d B = .ok xs B' ∧ Q d xs ∧ P B')
    {G : RV → Bag → Prop} (k : ∀ xss B', Pd Q l xss → P B' → xss.flatten.length ≤ 1000000 ∧ (∀ r ∈ xss.flatten, r.f = .D) ∧ G ⟨.lst (xss.flatten.map (·.d)), .D⟩ B') : EvTo (ev C (.comp ws elt (.one tg s c)) false δ B) G := by
  obtain ⟨xss, B', h1, h2, h3⟩ := compGo_draw hp st
  obtain ⟨k1, k2, k3⟩ := k xss B' h3 h2
  refine ⟨_, B', ?_, k3⟩
  rw [evq_comp, hs, ok_bind, h1, cap_of k1, ok_bind, flagL_D k1 k2, opt_some, ok_bind]
  rfl
theorem Pd.sub {α : Type} {h : α → D} {l : List α} {xss : List (List RV)} (p : Pd (fun d xs => xs = [⟨d, .D⟩] ∨ xs = []) (l.map h) xss) : ∃ l' : List α, l'.Sublist l ∧ xss.flatten = l'.map fun q => ⟨h q, .D⟩ := by
  induction l generalizing xss with
  | nil => cases p; exact ⟨[], .slnil, rfl⟩
  | cons q r ih =>
    cases p with
    | cons a b =>
      obtain ⟨l', h1, h2⟩ := ih b
      rcases a with rfl | rfl
      · exact ⟨q :: l', h1.cons₂ q, by rw [List.flatten_cons, h2]; rfl⟩
      · exact ⟨l', h1.cons q, by rw [List.flatten_cons, h2]; rfl⟩
end
theorem kids_lst {l : List D} : kidsFlat (.lst l) = D.flatL l := rfl
theorem kids_tup {l : List D} : kidsFlat (.tup l) = D.flatL l := rfl
/-- for .. in ..: gone through to its end -/
theorem for_to {C : Cs} {W : Nat} {δ : Env} {B : Bag} {lk : List Nat} {t : Tg} {s : Src} {b : SL} {l : List D} (I : List D → Env → Bag → Prop) (hs : evS C true s (freeze δ (occS s)) B = .ok l B) (h0 : I l (freeze δ (occS s)) B)
    (st : ∀ d r δ B, I (d :: r) δ B → ∃ δ1, asgTg t ⟨d, .S⟩ δ = some δ1 ∧ NxTo (exL C W b (lockOf s ++ lk) δ1 B) (fun δ B => I r δ B)) : NxTo (exS C W (.for_ t s b) lk δ B) (fun δ B => I [] δ B) := by
  have e : exS C W (.for_ t s b) lk δ B = ofRes (evS C true s (freeze δ (occS s)) B) fun l B => forGo (fun d δ B => match asgTg t ⟨d, .S⟩ δ with
        | some δ => exL C W b (lockOf s ++ lk) δ B
        | none => .st) l (freeze δ (occS s)) B := rfl
  rw [e, hs, ofRes_ok]
  obtain ⟨δ', B', h1, h2⟩ := forGo_inv (f := fun d δ B => match asgTg t ⟨d, .S⟩ δ with
        | some δ => exL C W b (lockOf s ++ lk) δ B
        | none => .st) I h0 fun d r δ B i => by
    obtain ⟨δ1, e1, δ2, B2, e2, i2⟩ := st d r δ B i
    exact ⟨δ2, B2, by rw [e1]; exact e2, i2⟩
  exact ⟨δ', B', h1, h2⟩
/-- a walk as a fold -/
theorem forGo_fold {α σ : Type} {f : D → Env → Bag → Out} {h : α → D} {S : σ → Env} {step : σ → α → σ} {Iv : List α → σ → Prop} {B : Bag} : ∀ {l : List α} {s : σ}, Iv l s → (∀ s q r, Iv (q :: r) s → f (h q) (S s) B = .nx (S (step s q)) B ∧ Iv r (step s q)) → forGo f (l.map h) (S s) B = .nx (S (l.foldl step s)) B
  | [], s, i, _ => rfl
  | q :: r, s, i, st => by
    obtain ⟨h1, h2⟩ := st s q r i
    show (match f (h q) (S s) B with | .nx δ B => forGo f (r.map h) δ B | .cnt δ B => forGo f (r.map h) δ B | .brk δ B => .nx δ B | o => o) = _
    rw [h1]
    exact forGo_fold (step := step) h2 st
end Wh

namespace Wh
open PySem
/-- is_number, 0 -/
def n_is_number : List Str := [Str.ofString "thing"]
def d_is_number : Def := { np := 1, ns := 1, body := (.cons (.ret (.an (.cons (.isi (.v 0) .int) (.cons (.nt (.isi (.v 0) .bool)) .nil)))) .nil) }
/-- is_index, 1 -/
def n_is_index : List Str := [Str.ofString "thing"]
def d_is_index : Def := { np := 1, ns := 1, body := (.cons (.ret (.an (.cons (.call 0 (.cons (.v 0) .nil)) (.cons (.o2 .ge (.v 0) (.k (.int 0))) .nil)))) .nil) }
/-- is_name, 2 -/
def n_is_name : List Str := [Str.ofString "thing", Str.ofString "sign"]
def d_is_name : Def := { np := 1, ns := 2, body := (.cons (.ite (.or (.cons (.nt (.isi (.v 0) .str)) (.cons (.nt (.ch .le .le (.k (.int 1)) (.bi .len (.cons (.v 0) .nil)) (.gc 2 (.int 8)))) .nil))) (.cons (.ret (.k (.bl false))) .nil) .nil) (.cons (.ite (.or (.cons (.o2 .notin (.ix (.v 0) (.k (.int 0))) (.gc 0 (.str (Str.ofString "abcdefghijklmnopqrstuvwxyz")))) (.cons (.o2 .isin (.v 0) (.gc 3 (.tup [(.str (Str.ofString "at")), (.str (Str.ofString "by")), (.str (Str.ofString "caught")), (.str (Str.ofString "door")), (.str (Str.ofString "doors")), (.str (Str.ofString "fold")), (.str (Str.ofString "from")), (.str (Str.ofString "go")), (.str (Str.ofString "goes")), (.str (Str.ofString "halls")), (.str (Str.ofString "in")), (.str (Str.ofString "into")), (.str (Str.ofString "no")), (.str (Str.ofString "none")), (.str (Str.ofString "of")), (.str (Str.ofString "play")), (.str (Str.ofString "post")), (.str (Str.ofString "posts")), (.str (Str.ofString "runner")), (.str (Str.ofString "safe")), (.str (Str.ofString "stand")), (.str (Str.ofString "to")), (.str (Str.ofString "turn")), (.str (Str.ofString "watch"))]))) .nil))) (.cons (.ret (.k (.bl false))) .nil) .nil) (.cons (.ret (.bi .all (.cons (.comp [1] (.o2 .isin (.v 1) (.o2 .add (.gc 0 (.str (Str.ofString "abcdefghijklmnopqrstuvwxyz"))) (.gc 1 (.str (Str.ofString "0123456789"))))) (.one (.n 1) (.v 0) .nil)) .nil))) .nil))) }
/-- many_halls, 3 -/
def n_many_halls : List Str := [Str.ofString "net"]
def d_many_halls : Def := { np := 1, ns := 1, body := (.cons (.ret (.bi .len (.cons (.ix (.v 0) (.k (.int 0))) .nil))) .nil) }
/-- check_hall, 4 -/
def n_check_hall : List Str := [Str.ofString "net", Str.ofString "hall"]
def d_check_hall : Def := { np := 2, ns := 2, body := (.cons (.ite (.or (.cons (.nt (.call 1 (.cons (.v 1) .nil))) (.cons (.o2 .ge (.v 1) (.bi .len (.cons (.ix (.v 0) (.k (.int 0))) .nil))) .nil))) (.cons (.raise 1 .nil) .nil) .nil) .nil) }
/-- hall_number, 5 -/
def n_hall_number : List Str := [Str.ofString "net", Str.ofString "name"]
def d_hall_number : Def := { np := 2, ns := 2, body := (.cons (.ite (.or (.cons (.nt (.call 2 (.cons (.v 1) .nil))) (.cons (.o2 .notin (.v 1) (.ix (.v 0) (.k (.int 0)))) .nil))) (.cons (.raise 1 .nil) .nil) .nil) (.cons (.ret (.me .index (.ix (.v 0) (.k (.int 0))) (.cons (.v 1) .nil))) .nil)) }
/-- hall_name, 6 -/
def n_hall_name : List Str := [Str.ofString "net", Str.ofString "hall"]
def d_hall_name : Def := { np := 2, ns := 2, body := (.cons (.ex (.call 4 (.cons (.v 0) (.cons (.v 1) .nil)))) (.cons (.ret (.ix (.ix (.v 0) (.k (.int 0))) (.v 1))) .nil)) }
/-- doors_by_number, 7 -/
def n_doors_by_number : List Str := [Str.ofString "net", Str.ofString "numbers", Str.ofString "number", Str.ofString "name", Str.ofString "one", Str.ofString "other"]
def d_doors_by_number : Def := { np := 1, ns := 6, body := (.cons (.asg (.n 1) (.dcomp [2, 3] (.v 3) (.v 2) (.one (.tup [2, 3]) (.enum (.ix (.v 0) (.k (.int 0)))) .nil))) (.cons (.ret (.bi .tuple (.cons (.comp [4, 5] (.tup (.cons (.ix (.v 1) (.v 4)) (.cons (.ix (.v 1) (.v 5)) .nil))) (.one (.tup [4, 5]) (.e (.ix (.v 0) (.k (.int 1)))) .nil)) .nil))) .nil)) }
/-- all_near, 8 -/
def n_all_near : List Str := [Str.ofString "net", Str.ofString "found", Str.ofString "hall", Str.ofString "one", Str.ofString "other", Str.ofString "halls"]
def d_all_near : Def := { np := 1, ns := 6, body := (.cons (.asg (.n 1) (.comp [2] (.lst (.cons (.v 2) .nil)) (.one (.n 2) (.rng (.cons (.bi .len (.cons (.ix (.v 0) (.k (.int 0))) .nil)) .nil)) .nil))) (.cons (.for_ (.tup [3, 4]) (.e (.call 7 (.cons (.v 0) .nil))) (.cons (.mut .append 1 (.cons (.v 3) .nil) (.cons (.v 4) .nil)) (.cons (.mut .append 1 (.cons (.v 4) .nil) (.cons (.v 3) .nil)) .nil))) (.cons (.ret (.bi .tuple (.cons (.comp [5] (.bi .tuple (.cons (.bi .sorted (.cons (.v 5) .nil)) .nil)) (.one (.n 5) (.v 1) .nil)) .nil))) .nil))) }
/-- near, 9 -/
def n_near : List Str := [Str.ofString "net", Str.ofString "hall"]
def d_near : Def := { np := 2, ns := 2, body := (.cons (.ex (.call 4 (.cons (.v 0) (.cons (.v 1) .nil)))) (.cons (.ret (.ix (.call 8 (.cons (.v 0) .nil)) (.v 1))) .nil)) }
/-- are_near, 10 -/
def n_are_near : List Str := [Str.ofString "net", Str.ofString "one", Str.ofString "other"]
def d_are_near : Def := { np := 3, ns := 3, body := (.cons (.ex (.call 4 (.cons (.v 0) (.cons (.v 2) .nil)))) (.cons (.ret (.o2 .isin (.v 2) (.call 9 (.cons (.v 0) (.cons (.v 1) .nil))))) .nil)) }
/-- door_counts, 11 -/
def n_door_counts : List Str := [Str.ofString "net", Str.ofString "halls"]
def d_door_counts : Def := { np := 1, ns := 2, body := (.cons (.ret (.bi .tuple (.cons (.comp [1] (.o2 .sub (.bi .len (.cons (.v 1) .nil)) (.k (.int 1))) (.one (.n 1) (.e (.call 8 (.cons (.v 0) .nil))) .nil)) .nil))) .nil) }
/-- _law_take, 13 -/
def n__law_take : List Str := [Str.ofString "bag", Str.ofString "many", Str.ofString "cell", Str.ofString "stirred", Str.ofString "value", Str.ofString "begin", Str.ofString "second"]
def d__law_take : Def := { np := 2, ns := 7, body := (.cons (.ite (.o2 .eq (.bg 0 0) (.k (.int 0))) (.cons (.asg (.n 2) (.ix (.o2 .add (.sl (.bg 0 3) (.some (.bg 0 2)) .none) (.lst (.cons (.k (.int 0)) .nil))) (.k (.int 0)))) (.cons (.baug 0 2 (.k (.int 1))) (.cons (.ite (.o2 .ge (.v 2) (.o2 .pow (.k (.int 10)) (.k (.int 18)))) (.cons (.bset 0 0 (.v 2)) .nil) .nil) (.cons (.asg (.n 3) (.o2 .add (.o2 .add (.o2 .mul (.bg 0 1) (.k (.int 48271))) (.o2 .mod (.bi .int (.cons (.v 2) .nil)) (.k (.int 2147483647)))) (.o2 .mul (.k (.int 7919)) (.bg 0 2)))) (.cons (.bset 0 1 (.o2 .mod (.bi .int (.cons (.v 3) .nil)) (.k (.int 2147483647)))) .nil))))) .nil) (.cons (.ite (.o2 .gt (.bg 0 0) (.k (.int 0))) (.cons (.asg (.n 4) (.o2 .mod (.bi .int (.cons (.bg 0 0) .nil)) (.v 1))) (.cons (.bset 0 0 (.o2 .fdiv (.bi .int (.cons (.bg 0 0) .nil)) (.v 1))) (.cons (.ret (.v 4)) .nil))) .nil) (.cons (.asg (.n 5) (.o2 .mod (.bi .int (.cons (.o2 .mul (.o2 .add (.bg 0 1) (.k (.int 1))) (.k (.int 39373))) .nil)) (.k (.int 1000000007)))) (.cons (.asg (.n 6) (.o2 .mod (.bi .int (.cons (.o2 .mul (.o2 .mod (.bi .int (.cons (.o2 .mul (.v 5) (.v 5)) .nil)) (.k (.int 998244353))) (.k (.int 30011))) .nil)) (.k (.int 998244353)))) (.cons (.ret (.o2 .mod (.bi .int (.cons (.o2 .fdiv (.v 6) (.k (.int 7))) .nil)) (.v 1))) .nil))))) }
/-- _law_some, 14 -/
def n__law_some : List Str := [Str.ofString "bag", Str.ofString "things"]
def d__law_some : Def := { np := 2, ns := 2, body := (.cons (.ret (.ix (.v 1) (.call 13 (.cons (.v 0) (.cons (.bi .len (.cons (.v 1) .nil)) .nil))))) .nil) }
/-- _law_alike, 15 -/
def n__law_alike : List Str := [Str.ofString "found", Str.ofString "due"]
def d__law_alike : Def := { np := 2, ns := 2, body := (.cons (.ret (.an (.cons (.o2 .eq (.bi .repr (.cons (.v 0) .nil)) (.bi .repr (.cons (.v 1) .nil))) (.cons (.o2 .eq (.v 0) (.v 1)) .nil)))) .nil) }
/-- _law_pairs, 16 -/
def n__law_pairs : List Str := [Str.ofString "many", Str.ofString "found", Str.ofString "a", Str.ofString "b"]
def d__law_pairs : Def := { np := 1, ns := 4, body := (.cons (.asg (.n 1) (.lst .nil)) (.cons (.for_ (.n 2) (.rng (.cons (.v 0) .nil)) (.cons (.mut .extend 1 .nil (.cons (.comp [3] (.tup (.cons (.v 2) (.cons (.v 3) .nil))) (.one (.n 3) (.rng (.cons (.o2 .add (.v 2) (.k (.int 1))) (.cons (.v 0) .nil))) .nil)) .nil)) .nil)) (.cons (.ret (.v 1)) .nil))) }
/-- _law_net, 17 -/
def n__law_net : List Str := [Str.ofString "bag", Str.ofString "most", Str.ofString "many", Str.ofString "names", Str.ofString "doors", Str.ofString "couple", Str.ofString "k", Str.ofString "a", Str.ofString "b"]
def d__law_net : Def := { np := 2, ns := 9, body := (.cons (.asg (.n 2) (.o2 .add (.k (.int 1)) (.call 13 (.cons (.v 0) (.cons (.v 1) .nil))))) (.cons (.asg (.n 3) (.sl (.tup (.cons (.k (.str (Str.ofString "a"))) (.cons (.k (.str (Str.ofString "b"))) (.cons (.k (.str (Str.ofString "c"))) (.cons (.k (.str (Str.ofString "d"))) (.cons (.k (.str (Str.ofString "e"))) (.cons (.k (.str (Str.ofString "f"))) (.cons (.k (.str (Str.ofString "g"))) (.cons (.k (.str (Str.ofString "h"))) .nil))))))))) .none (.some (.v 2)))) (.cons (.asg (.n 4) (.comp [5] (.v 5) (.one (.n 5) (.e (.call 16 (.cons (.v 2) .nil))) (.cons (.o2 .eq (.call 13 (.cons (.v 0) (.cons (.k (.int 3)) .nil))) (.k (.int 0))) .nil)))) (.cons (.ite (.o2 .eq (.call 13 (.cons (.v 0) (.cons (.k (.int 2)) .nil))) (.k (.int 0))) (.cons (.asg (.n 4) (.bi .sset (.cons (.o2 .add (.v 4) (.comp [6] (.tup (.cons (.call 13 (.cons (.v 0) (.cons (.v 6) .nil))) (.cons (.v 6) .nil))) (.one (.n 6) (.rng (.cons (.k (.int 1)) (.cons (.v 2) .nil))) .nil))) .nil))) .nil) .nil) (.cons (.ret (.tup (.cons (.v 3) (.cons (.bi .tuple (.cons (.comp [7, 8] (.tup (.cons (.ix (.v 3) (.v 7)) (.cons (.ix (.v 3) (.v 8)) .nil))) (.one (.tup [7, 8]) (.v 4) .nil)) .nil)) .nil)))) .nil))))) }
/-- _law_net_by, 18 -/
def n__law_net_by : List Str := [Str.ofString "many", Str.ofString "doors", Str.ofString "names", Str.ofString "a", Str.ofString "b"]
def d__law_net_by : Def := { np := 2, ns := 5, body := (.cons (.asg (.n 2) (.sl (.tup (.cons (.k (.str (Str.ofString "a"))) (.cons (.k (.str (Str.ofString "b"))) (.cons (.k (.str (Str.ofString "c"))) (.cons (.k (.str (Str.ofString "d"))) (.cons (.k (.str (Str.ofString "e"))) (.cons (.k (.str (Str.ofString "f"))) (.cons (.k (.str (Str.ofString "g"))) (.cons (.k (.str (Str.ofString "h"))) .nil))))))))) .none (.some (.v 0)))) (.cons (.ret (.tup (.cons (.v 2) (.cons (.bi .tuple (.cons (.comp [3, 4] (.tup (.cons (.ix (.v 2) (.v 3)) (.cons (.ix (.v 2) (.v 4)) .nil))) (.one (.tup [3, 4]) (.v 1) .nil)) .nil)) .nil)))) .nil)) }
/-- _law_near, 19 -/
def n__law_near : List Str := [Str.ofString "net", Str.ofString "halls", Str.ofString "found", Str.ofString "k", Str.ofString "one", Str.ofString "other", Str.ofString "a", Str.ofString "b", Str.ofString "row"]
def d__law_near : Def := { np := 1, ns := 9, body := (.cons (.asg (.n 1) (.bi .list (.cons (.ix (.v 0) (.k (.int 0))) .nil))) (.cons (.asg (.n 2) (.comp [3] (.lst (.cons (.v 3) .nil)) (.one (.n 3) (.rng (.cons (.bi .len (.cons (.v 1) .nil)) .nil)) .nil))) (.cons (.for_ (.tup [4, 5]) (.e (.ix (.v 0) (.k (.int 1)))) (.cons (.asg (.tup [6, 7]) (.tup (.cons (.me .index (.v 1) (.cons (.v 4) .nil)) (.cons (.me .index (.v 1) (.cons (.v 5) .nil)) .nil)))) (.cons (.mut .append 2 (.cons (.v 6) .nil) (.cons (.v 7) .nil)) (.cons (.mut .append 2 (.cons (.v 7) .nil) (.cons (.v 6) .nil)) .nil)))) (.cons (.ret (.comp [8] (.bi .sorted (.cons (.v 8) .nil)) (.one (.n 8) (.v 2) .nil))) .nil)))) }
/-- _law_whole_net, 20 -/
def n__law_whole_net : List Str := [Str.ofString "bag", Str.ofString "most", Str.ofString "many", Str.ofString "doors", Str.ofString "couple", Str.ofString "k"]
def d__law_whole_net : Def := { np := 2, ns := 6, body := (.cons (.asg (.n 2) (.o2 .add (.k (.int 1)) (.call 13 (.cons (.v 0) (.cons (.v 1) .nil))))) (.cons (.asg (.n 3) (.comp [4] (.v 4) (.one (.n 4) (.e (.call 16 (.cons (.v 2) .nil))) (.cons (.o2 .eq (.call 13 (.cons (.v 0) (.cons (.k (.int 4)) .nil))) (.k (.int 0))) .nil)))) (.cons (.ret (.call 18 (.cons (.v 2) (.cons (.bi .sset (.cons (.o2 .add (.v 3) (.comp [5] (.tup (.cons (.call 13 (.cons (.v 0) (.cons (.v 5) .nil))) (.cons (.v 5) .nil))) (.one (.n 5) (.rng (.cons (.k (.int 1)) (.cons (.v 2) .nil))) .nil))) .nil)) .nil)))) .nil))) }
/-- _law_known_net, 21 -/
def n__law_known_net : List Str := [Str.ofString "bag", Str.ofString "way", Str.ofString "n", Str.ofString "k"]
def d__law_known_net : Def := { np := 1, ns := 4, body := (.cons (.asg (.n 1) (.call 13 (.cons (.v 0) (.cons (.k (.int 7)) .nil)))) (.cons (.ite (.o2 .eq (.v 1) (.k (.int 0))) (.cons (.asg (.n 2) (.o2 .add (.k (.int 3)) (.call 13 (.cons (.v 0) (.cons (.k (.int 4)) .nil))))) (.cons (.ret (.call 18 (.cons (.v 2) (.cons (.bi .sorted (.cons (.comp [3] (.bi .tuple (.cons (.bi .sorted (.cons (.lst (.cons (.v 3) (.cons (.o2 .mod (.o2 .add (.v 3) (.k (.int 1))) (.v 2)) .nil))) .nil)) .nil)) (.one (.n 3) (.rng (.cons (.v 2) .nil)) .nil)) .nil)) .nil)))) .nil)) .nil) (.cons (.ite (.o2 .eq (.v 1) (.k (.int 1))) (.cons (.ret (.call 18 (.cons (.k (.int 6)) (.cons (.lst (.cons (.tup (.cons (.k (.int 0)) (.cons (.k (.int 1)) .nil))) (.cons (.tup (.cons (.k (.int 0)) (.cons (.k (.int 3)) .nil))) (.cons (.tup (.cons (.k (.int 1)) (.cons (.k (.int 2)) .nil))) (.cons (.tup (.cons (.k (.int 1)) (.cons (.k (.int 4)) .nil))) (.cons (.tup (.cons (.k (.int 2)) (.cons (.k (.int 5)) .nil))) (.cons (.tup (.cons (.k (.int 3)) (.cons (.k (.int 4)) .nil))) (.cons (.tup (.cons (.k (.int 4)) (.cons (.k (.int 5)) .nil))) .nil)))))))) .nil)))) .nil) .nil) (.cons (.ite (.o2 .eq (.v 1) (.k (.int 2))) (.cons (.ret (.call 18 (.cons (.k (.int 5)) (.cons (.lst (.cons (.tup (.cons (.k (.int 0)) (.cons (.k (.int 1)) .nil))) (.cons (.tup (.cons (.k (.int 0)) (.cons (.k (.int 3)) .nil))) (.cons (.tup (.cons (.k (.int 0)) (.cons (.k (.int 4)) .nil))) (.cons (.tup (.cons (.k (.int 1)) (.cons (.k (.int 2)) .nil))) (.cons (.tup (.cons (.k (.int 1)) (.cons (.k (.int 4)) .nil))) (.cons (.tup (.cons (.k (.int 2)) (.cons (.k (.int 3)) .nil))) (.cons (.tup (.cons (.k (.int 2)) (.cons (.k (.int 4)) .nil))) (.cons (.tup (.cons (.k (.int 3)) (.cons (.k (.int 4)) .nil))) .nil))))))))) .nil)))) .nil) .nil) (.cons (.ret (.ife (.o2 .lt (.v 1) (.k (.int 5))) (.call 17 (.cons (.v 0) (.cons (.k (.int 6)) .nil))) (.call 20 (.cons (.v 0) (.cons (.k (.int 6)) .nil))))) .nil))))) }
end Wh

set_option maxHeartbeats 4000000
namespace Wh
open PySem
structure BOk (B : Bag) : Prop where
  big : 0 ≤ B.big
  seed : 0 ≤ B.seed ∧ B.seed < 2147483647
  cells : B.cells.length ≤ 63 ∧ ∀ x ∈ B.cells, 0 ≤ x
theorem eq_int {a b : Int} {f g : Fl} : o2F .eq ⟨.int a, f⟩ ⟨.int b, g⟩ = some ⟨.bl (decide (a = b)), .D⟩ := by
  have e : o2F .eq ⟨.int a, f⟩ ⟨.int b, g⟩ = if okP (.int a) && okP (.int b) then plain (.bl (eqD (.int a) (.int b))) else none := rfl
  rw [e, if_pos (by rfl)]
  have : eqD (.int a) (.int b) = decide (a = b) := by
    by_cases q : a = b
    · subst q; simp [eqD, D.toP, PyData.eqv]
    · simp [eqD, D.toP, PyData.eqv, q]
  rw [this]
  rfl
theorem gt_int {a b : Int} {f g : Fl} : o2F .gt ⟨.int a, f⟩ ⟨.int b, g⟩ = some ⟨.bl (decide (b < a)), .D⟩ := rfl
theorem ge_int {a b : Int} {f g : Fl} : o2F .ge ⟨.int a, f⟩ ⟨.int b, g⟩ = some ⟨.bl (decide (b ≤ a)), .D⟩ := rfl
theorem lt_int {a b : Int} {f g : Fl} : o2F .lt ⟨.int a, f⟩ ⟨.int b, g⟩ = some ⟨.bl (decide (a < b)), .D⟩ := rfl
theorem le_int {a b : Int} {f g : Fl} : o2F .le ⟨.int a, f⟩ ⟨.int b, g⟩ = some ⟨.bl (decide (a ≤ b)), .D⟩ := rfl
theorem add_int {a b : Int} {f g : Fl} : o2F .add ⟨.int a, f⟩ ⟨.int b, g⟩ = some ⟨.int (a + b), .D⟩ := rfl
theorem sub_int {a b : Int} {f g : Fl} : o2F .sub ⟨.int a, f⟩ ⟨.int b, g⟩ = some ⟨.int (a - b), .D⟩ := rfl
theorem mul_int {a b : Int} {f g : Fl} (h : (-(2 ^ 64) < a ∧ a < 2 ^ 64) ∨ (-(2 ^ 64) < b ∧ b < 2 ^ 64)) : o2F .mul ⟨.int a, f⟩ ⟨.int b, g⟩ = some ⟨.int (a * b), .D⟩ := if_pos h
theorem mod_int {a b : Int} {f g : Fl} (h : b ≠ 0) : o2F .mod ⟨.int a, f⟩ ⟨.int b, g⟩ = some ⟨.int (a.fmod b), .D⟩ := if_neg h
theorem fdiv_int {a b : Int} {f g : Fl} (h : b ≠ 0 ∧ b.natAbs < 1073741824) : o2F .fdiv ⟨.int a, f⟩ ⟨.int b, g⟩ = some ⟨.int (a.fdiv b), .D⟩ := if_pos h
theorem bint {a : Int} {f : Fl} : biF .int [⟨.int a, f⟩] = some ⟨.int a, .D⟩ := rfl
theorem fmod_rng {a b : Int} (h : 0 < b) : 0 ≤ a.fmod b ∧ a.fmod b < b := ⟨Int.fmod_nonneg_of_pos a h, Int.fmod_lt_of_pos a h⟩
/-- the drawn cell -/
def cellOf (B : Bag) : Int := ((B.cells.drop B.at_) ++ [0]).headD 0
theorem cellOf_nn {B : Bag} (h : BOk B) : 0 ≤ cellOf B := by
  unfold cellOf
  cases q : B.cells.drop B.at_ with
  | nil => exact Int.le_refl _
  | cons a r => exact h.cells.2 a (List.mem_of_mem_drop (q ▸ List.mem_cons_self))
theorem cut_from {α : Type} {xs : List α} {n : Nat} : cutL xs (some (n : Int)) none = xs.drop n := by
  unfold cutL
  rw [HT.sIx_nat, HT.sIx_none]
  rcases Nat.le_total n xs.length with h | h
  · rw [Nat.min_eq_left h, List.take_of_length_le (by rw [List.length_drop]; exact Nat.le_refl _)]
  · rw [Nat.min_eq_right h, List.drop_of_length_le h, List.drop_length, List.take_nil]
theorem intsFlat (l : List Int) : D.flatL (l.map D.int) = true := by
  rw [flatL_iff]
  intro d hd
  obtain ⟨i, _, rfl⟩ := List.mem_map.mp hd
  rfl
theorem pow18 : o2F .pow ⟨.int 10, .D⟩ ⟨.int 18, .D⟩ = some ⟨.int (10 ^ 18), .D⟩ := by rfl
/-- the def's last part -/
def takeRest : SL := match d__law_take.body with
  | .cons _ r => r
  | .nil => .nil
def takeFst : S := match d__law_take.body with
  | .cons s _ => s
  | .nil => .pas
section
variable {Pf : Nat → Option Fn} {C : Cs} {W k : Nat} {B : Bag}
theorem take2 {m : Int} (hm : 0 < m ∧ m < 1073741824) {x y : Option (Md × D)} (hB : BOk B) : ∃ v B', exL C W takeRest [] [some (.S, .bag), some (.S, .int m), x, y, none, none, none] B = .ret ⟨.int v, .D⟩ B' ∧ 0 ≤ v ∧ v < m ∧ BOk B' := by
  by_cases hp : 0 < B.big
  · refine ⟨B.big.fmod m, { B with big := B.big.fdiv m }, ?_, (fmod_rng hm.1).1, (fmod_rng hm.1).2, ⟨Int.fdiv_nonneg hB.big (by omega), hB.seed, hB.cells⟩⟩
    have d1 : o2F .fdiv ⟨.int B.big, .D⟩ ⟨.int m, .D⟩ = _ := fdiv_int ⟨by omega, by omega⟩
    have d2 : o2F .mod ⟨.int B.big, .D⟩ ⟨.int m, .D⟩ = _ := mod_int (by omega)
    have nn : 0 ≤ B.big.fdiv m := Int.fdiv_nonneg hB.big (by omega)
    simp only [exL_nil, exL_cons, exS, evq_v, evq_k, evq_gc, evq_tup, evq_lst, evq_o2, evq_ch, evq_neg, evq_nt, evq_an, evq_or, evq_ife, evq_ix, evq_sl, evq_call, evq_bi, evq_isi, evq_me, evq_bg, evq_heard, evq_comp, evq_dcomp, evL, evO, evS, evG, evC, evAn, evOr, slot, get_0, get_s, put_0, put_s, wipe_nil, wipe_cons, List.set_cons_zero, List.set_cons_succ, freeze, freeze1, occ, occL, occO, occS, occG, occS2, List.foldl_nil, List.foldl_cons, List.append_nil, List.nil_append, List.cons_append, List.map_cons, List.map_nil, List.replicate_succ, List.replicate_zero, ofRes_ok, ofRes_exc, ok_bind, exc_bind, opt_some, outR_ret, outR_nx, outR_exc, asT_f, asT_t, flat_tup, flat_pr, flat_lst, flat_dct, flat_int, flat_str, flat_bl, flat_non, flat_bag, flatL_nil, flatL_cons, Bool.and_true, Bool.true_and, Bool.and_false, Bool.false_and, if_true, if_false, ite_true, ite_false, Bool.false_eq_true, List.contains_nil, Nat.reduceSub, Nat.reduceAdd, Nat.reduceEqDiff, lent_D, lent_R, lent_S, lent_BR, lent_BD, fU0, fL0, fU1, fL1, fU2, fL2, fU3, fL3, fU4, fL4, fU5, fL5, fU6, fL6, fU7, fL7, fU8, fL8, kids_lst, kids_tup, asgTg, asgL, mdOf, bRes, truth, takeRest, d__law_take, bagAt, plain, gt_int, hp, decide_true, bint, d1, d2, bagSet, nn]
  · have r1 := fmod_rng (a := (B.seed + 1) * 39373) (b := 1000000007) (by decide)
    have d1 : o2F .mul ⟨.int (B.seed + 1), .D⟩ ⟨.int 39373, .D⟩ = _ := mul_int (.inr ⟨by decide, by decide⟩)
    have d2 : o2F .mod ⟨.int ((B.seed + 1) * 39373), .D⟩ ⟨.int 1000000007, .D⟩ = _ := mod_int (by decide)
    obtain ⟨b1, hb1⟩ : ∃ b, ((B.seed + 1) * 39373).fmod 1000000007 = b := ⟨_, rfl⟩
    rw [hb1] at d2 r1
    have d3 : o2F .mul ⟨.int b1, .D⟩ ⟨.int b1, .D⟩ = _ := mul_int (.inr ⟨by omega, by omega⟩)
    have d4 : o2F .mod ⟨.int (b1 * b1), .D⟩ ⟨.int 998244353, .D⟩ = _ := mod_int (by decide)
    have d5 : o2F .mul ⟨.int ((b1 * b1).fmod 998244353), .D⟩ ⟨.int 30011, .D⟩ = _ := mul_int (.inr ⟨by decide, by decide⟩)
    have d6 : o2F .mod ⟨.int ((b1 * b1).fmod 998244353 * 30011), .D⟩ ⟨.int 998244353, .D⟩ = _ := mod_int (by decide)
    obtain ⟨b2, hb2⟩ : ∃ b, ((b1 * b1).fmod 998244353 * 30011).fmod 998244353 = b := ⟨_, rfl⟩
    rw [hb2] at d6
    have d7 : o2F .fdiv ⟨.int b2, .D⟩ ⟨.int 7, .D⟩ = _ := fdiv_int (by decide)
    have d8 : o2F .mod ⟨.int (b2.fdiv 7), .D⟩ ⟨.int m, .D⟩ = _ := mod_int (by omega)
    refine ⟨(b2.fdiv 7).fmod m, B, ?_, (fmod_rng hm.1).1, (fmod_rng hm.1).2, hB⟩
    simp only [exL_nil, exL_cons, exS, evq_v, evq_k, evq_gc, evq_tup, evq_lst, evq_o2, evq_ch, evq_neg, evq_nt, evq_an, evq_or, evq_ife, evq_ix, evq_sl, evq_call, evq_bi, evq_isi, evq_me, evq_bg, evq_heard, evq_comp, evq_dcomp, evL, evO, evS, evG, evC, evAn, evOr, slot, get_0, get_s, put_0, put_s, wipe_nil, wipe_cons, List.set_cons_zero, List.set_cons_succ, freeze, freeze1, occ, occL, occO, occS, occG, occS2, List.foldl_nil, List.foldl_cons, List.append_nil, List.nil_append, List.cons_append, List.map_cons, List.map_nil, List.replicate_succ, List.replicate_zero, ofRes_ok, ofRes_exc, ok_bind, exc_bind, opt_some, outR_ret, outR_nx, outR_exc, asT_f, asT_t, flat_tup, flat_pr, flat_lst, flat_dct, flat_int, flat_str, flat_bl, flat_non, flat_bag, flatL_nil, flatL_cons, Bool.and_true, Bool.true_and, Bool.and_false, Bool.false_and, if_true, if_false, ite_true, ite_false, Bool.false_eq_true, List.contains_nil, Nat.reduceSub, Nat.reduceAdd, Nat.reduceEqDiff, lent_D, lent_R, lent_S, lent_BR, lent_BD, fU0, fL0, fU1, fL1, fU2, fL2, fU3, fL3, fU4, fL4, fU5, fL5, fU6, fL6, fU7, fL7, fU8, fL8, kids_lst, kids_tup, asgTg, asgL, mdOf, bRes, truth, takeRest, d__law_take, bagAt, plain, gt_int, hp, decide_false, bint, add_int, d1, d2, d3, d4, d5, d6, d7, d8]
theorem sp_take (h : Pf 13 = some (.py d__law_take)) {m : Int} (hm : 0 < m ∧ m < 1073741824) (hB : BOk B) : ∃ v B', callN Pf W (k + 1) 13 [.bag, .int m] B = .ok ⟨.int v, .D⟩ B' ∧ 0 ≤ v ∧ v < m ∧ BOk B' := by
  have first : ∃ x y B1, exS (callN Pf W k) W takeFst [] [some (.S, .bag), some (.S, .int m), none, none, none, none, none] B = .nx [some (.S, .bag), some (.S, .int m), x, y, none, none, none] B1 ∧ BOk B1 := by
    by_cases hz : B.big = 0
    · have hc : 0 ≤ cellOf B := cellOf_nn hB
      have s1 : slF ⟨.lst (B.cells.map D.int), .BD⟩ (some (B.at_ : Int)) none = some ⟨.lst ((B.cells.drop B.at_).map D.int), .D⟩ := by
        show flagN .BD (cutL (B.cells.map D.int) (some (B.at_ : Int)) none) (.lst (cutL (B.cells.map D.int) (some (B.at_ : Int)) none)) = _
        rw [cut_from, ← List.map_drop]
        unfold flagN
        rw [if_pos (intsFlat _)]
      have s2 : o2F .add ⟨.lst ((B.cells.drop B.at_).map D.int), .D⟩ ⟨.lst [.int 0], .D⟩ = some ⟨.lst (((B.cells.drop B.at_) ++ [0]).map D.int), .D⟩ := by
        have e : o2F .add ⟨.lst ((B.cells.drop B.at_).map D.int), .D⟩ ⟨.lst [.int 0], .D⟩ = if ((B.cells.drop B.at_).map D.int).length + 1 ≤ 1000000 then flagN .S ((B.cells.drop B.at_).map D.int ++ [.int 0]) (.lst ((B.cells.drop B.at_).map D.int ++ [.int 0])) else none := rfl
        rw [e, if_pos (by rw [List.length_map, List.length_drop]; have := hB.cells.1; omega), List.map_append]
        unfold flagN
        rw [if_pos (by have := intsFlat (B.cells.drop B.at_ ++ [0]); rw [List.map_append] at this; exact this)]
        rfl
      have s3 : ixF ⟨.lst (((B.cells.drop B.at_) ++ [0]).map D.int), .D⟩ ⟨.int 0, .D⟩ = some ⟨.int (cellOf B), .D⟩ := by
        unfold cellOf
        cases B.cells.drop B.at_ with
        | nil => rfl
        | cons a r =>
          have : L2.atI ((a :: r ++ [0]).map D.int) 0 = some (.int a) := L2.atI_nat (j := 0) rfl
          show (match L2.atI ((a :: r ++ [0]).map D.int) 0 with | some d => flagC .D d | none => none) = _
          rw [this]
          rfl
      have m1 : ∀ z, o2F .mul ⟨.int z, .D⟩ ⟨.int 48271, .D⟩ = _ := fun z => mul_int (.inr ⟨by decide, by decide⟩)
      have m3 : o2F .mod ⟨.int (cellOf B), .D⟩ ⟨.int 2147483647, .D⟩ = _ := mod_int (by decide)
      have m2 : ∀ z, o2F .mul ⟨.int 7919, .D⟩ ⟨.int z, .D⟩ = _ := fun z => mul_int (.inl ⟨by decide, by decide⟩)
      have m4 : ∀ z, o2F .mod ⟨.int z, .D⟩ ⟨.int 2147483647, .D⟩ = _ := fun z => mod_int (by decide)
      have fl : flagL [⟨.int 0, .D⟩] = some ⟨.lst [.int 0], .D⟩ := rfl
      have at1 : (0 : Int) ≤ (B.at_ : Int) + 1 := by omega
      have at2 : ((B.at_ : Int) + 1).toNat = B.at_ + 1 := by omega
      by_cases hg : (10 : Int) ^ 18 ≤ cellOf B
      · obtain ⟨q, hq⟩ : ∃ q, (B.seed * 48271 + (cellOf B).fmod 2147483647 + 7919 * ((B.at_ + 1 : Nat) : Int)).fmod 2147483647 = q := ⟨_, rfl⟩
        have hr : 0 ≤ q ∧ q < 2147483647 := hq ▸ fmod_rng (by decide)
        refine ⟨some (.S, .int (cellOf B)), some (.S, .int (B.seed * 48271 + (cellOf B).fmod 2147483647 + 7919 * ((B.at_ + 1 : Nat) : Int))), ⟨cellOf B, q, B.at_ + 1, B.cells⟩, ?_, ⟨hc, hr, hB.cells⟩⟩
        simp only [exL_nil, exL_cons, exS, evq_v, evq_k, evq_gc, evq_tup, evq_lst, evq_o2, evq_ch, evq_neg, evq_nt, evq_an, evq_or, evq_ife, evq_ix, evq_sl, evq_call, evq_bi, evq_isi, evq_me, evq_bg, evq_heard, evq_comp, evq_dcomp, evL, evO, evS, evG, evC, evAn, evOr, slot, get_0, get_s, put_0, put_s, wipe_nil, wipe_cons, List.set_cons_zero, List.set_cons_succ, freeze, freeze1, occ, occL, occO, occS, occG, occS2, List.foldl_nil, List.foldl_cons, List.append_nil, List.nil_append, List.cons_append, List.map_cons, List.map_nil, List.replicate_succ, List.replicate_zero, ofRes_ok, ofRes_exc, ok_bind, exc_bind, opt_some, outR_ret, outR_nx, outR_exc, asT_f, asT_t, flat_tup, flat_pr, flat_lst, flat_dct, flat_int, flat_str, flat_bl, flat_non, flat_bag, flatL_nil, flatL_cons, Bool.and_true, Bool.true_and, Bool.and_false, Bool.false_and, if_true, if_false, ite_true, ite_false, Bool.false_eq_true, List.contains_nil, Nat.reduceSub, Nat.reduceAdd, Nat.reduceEqDiff, lent_D, lent_R, lent_S, lent_BR, lent_BD, fU0, fL0, fU1, fL1, fU2, fL2, fU3, fL3, fU4, fL4, fU5, fL5, fU6, fL6, fU7, fL7, fU8, fL8, kids_lst, kids_tup, asgTg, asgL, mdOf, bRes, truth, takeFst, d__law_take, bagAt, plain, eq_int, hz, decide_true, s1, s2, s3, fl, add_int, bagSet, at1, at2, ge_int, pow18, hg, hc, bint, m1, m2, m3, m4, hq, hr, and_self]
      · obtain ⟨q, hq⟩ : ∃ q, (B.seed * 48271 + (cellOf B).fmod 2147483647 + 7919 * ((B.at_ + 1 : Nat) : Int)).fmod 2147483647 = q := ⟨_, rfl⟩
        have hr : 0 ≤ q ∧ q < 2147483647 := hq ▸ fmod_rng (by decide)
        refine ⟨some (.S, .int (cellOf B)), some (.S, .int (B.seed * 48271 + (cellOf B).fmod 2147483647 + 7919 * ((B.at_ + 1 : Nat) : Int))), ⟨0, q, B.at_ + 1, B.cells⟩, ?_, ⟨Int.le_refl _, hr, hB.cells⟩⟩
        simp only [exL_nil, exL_cons, exS, evq_v, evq_k, evq_gc, evq_tup, evq_lst, evq_o2, evq_ch, evq_neg, evq_nt, evq_an, evq_or, evq_ife, evq_ix, evq_sl, evq_call, evq_bi, evq_isi, evq_me, evq_bg, evq_heard, evq_comp, evq_dcomp, evL, evO, evS, evG, evC, evAn, evOr, slot, get_0, get_s, put_0, put_s, wipe_nil, wipe_cons, List.set_cons_zero, List.set_cons_succ, freeze, freeze1, occ, occL, occO, occS, occG, occS2, List.foldl_nil, List.foldl_cons, List.append_nil, List.nil_append, List.cons_append, List.map_cons, List.map_nil, List.replicate_succ, List.replicate_zero, ofRes_ok, ofRes_exc, ok_bind, exc_bind, opt_some, outR_ret, outR_nx, outR_exc, asT_f, asT_t, flat_tup, flat_pr, flat_lst, flat_dct, flat_int, flat_str, flat_bl, flat_non, flat_bag, flatL_nil, flatL_cons, Bool.and_true, Bool.true_and, Bool.and_false, Bool.false_and, if_true, if_false, ite_true, ite_false, Bool.false_eq_true, List.contains_nil, Nat.reduceSub, Nat.reduceAdd, Nat.reduceEqDiff, lent_D, lent_R, lent_S, lent_BR, lent_BD, fU0, fL0, fU1, fL1, fU2, fL2, fU3, fL3, fU4, fL4, fU5, fL5, fU6, fL6, fU7, fL7, fU8, fL8, kids_lst, kids_tup, asgTg, asgL, mdOf, bRes, truth, takeFst, d__law_take, bagAt, plain, eq_int, hz, decide_true, decide_false, s1, s2, s3, fl, add_int, bagSet, at1, at2, ge_int, pow18, hg, hc, bint, m1, m2, m3, m4, hq, hr, and_self]
    · exact ⟨none, none, B, by simp only [exL_nil, exL_cons, exS, evq_v, evq_k, evq_gc, evq_tup, evq_lst, evq_o2, evq_ch, evq_neg, evq_nt, evq_an, evq_or, evq_ife, evq_ix, evq_sl, evq_call, evq_bi, evq_isi, evq_me, evq_bg, evq_heard, evq_comp, evq_dcomp, evL, evO, evS, evG, evC, evAn, evOr, slot, get_0, get_s, put_0, put_s, wipe_nil, wipe_cons, List.set_cons_zero, List.set_cons_succ, freeze, freeze1, occ, occL, occO, occS, occG, occS2, List.foldl_nil, List.foldl_cons, List.append_nil, List.nil_append, List.cons_append, List.map_cons, List.map_nil, List.replicate_succ, List.replicate_zero, ofRes_ok, ofRes_exc, ok_bind, exc_bind, opt_some, outR_ret, outR_nx, outR_exc, asT_f, asT_t, flat_tup, flat_pr, flat_lst, flat_dct, flat_int, flat_str, flat_bl, flat_non, flat_bag, flatL_nil, flatL_cons, Bool.and_true, Bool.true_and, Bool.and_false, Bool.false_and, if_true, if_false, ite_true, ite_false, Bool.false_eq_true, List.contains_nil, Nat.reduceSub, Nat.reduceAdd, Nat.reduceEqDiff, lent_D, lent_R, lent_S, lent_BR, lent_BD, fU0, fL0, fU1, fL1, fU2, fL2, fU3, fL3, fU4, fL4, fU5, fL5, fU6, fL6, fU7, fL7, fU8, fL8, kids_lst, kids_tup, asgTg, asgL, mdOf, bRes, truth, takeFst, d__law_take, bagAt, plain, eq_int, hz, decide_false], hB⟩
  obtain ⟨x, y, B1, h1, hB1⟩ := first
  obtain ⟨v, B2, h2, h3, h4, h5⟩ := take2 (C := callN Pf W k) (W := W) hm (x := x) (y := y) hB1
  refine ⟨v, B2, ?_, h3, h4, h5⟩
  rw [callN_py h rfl]
  show outR (match exS (callN Pf W k) W takeFst [] [some (.S, .bag), some (.S, .int m), none, none, none, none, none] B with | .nx δ B => exL (callN Pf W k) W takeRest [] δ B | o => o) = _
  rw [h1]
  show outR (exL _ _ _ _ _ _) = _
  rw [h2]
  rfl
end
end Wh

set_option maxHeartbeats 1000000
/-! Wh, plain part: what is shown is short; two equal values are alike. -/
namespace Wh
open PySem
mutual
/-- it can be shown, and is short: numbers below 1000, texts of common signs -/
def shOk : D → Bool
  | .non => true
  | .bl _ => true
  | .int i => decide (-1000 < i) && decide (i < 1000)
  | .str s => s.cps.toList.all fun c => decide (c < 1114112)
  | .tup l => shOkL l
  | .lst l => shOkL l
  | _ => false
def shOkL : List D → Bool
  | [] => true
  | d :: r => shOk d && shOkL r
end
mutual
def shB : D → Nat
  | .str s => 10 * s.length + 2
  | .tup l => shBL l + 4
  | .lst l => shBL l + 4
  | _ => 5
def shBL : List D → Nat
  | [] => 0
  | d :: r => shB d + 2 + shBL r
end
theorem shOkL_iff : ∀ {l : List D}, shOkL l = true ↔ ∀ d ∈ l, shOk d = true
  | [] => by simp [shOkL]
  | d :: r => by simp [shOkL, shOkL_iff]
theorem shBL_le {c : Nat} : ∀ {l : List D}, (∀ d ∈ l, shB d ≤ c) → shBL l ≤ l.length * (c + 2)
  | [], _ => by simp [shBL]
  | d :: r, h => by
    have h1 := h d List.mem_cons_self
    have h2 := shBL_le fun e he => h e (List.mem_cons_of_mem _ he)
    show shB d + 2 + shBL r ≤ (r.length + 1) * (c + 2)
    rw [Nat.succ_mul]
    omega
theorem textFrom_le : ∀ (ts : List Str) (k : Nat) (acc : Str), (textFrom k acc ts).length ≤ acc.length + piled ts
  | [], k, acc => by show acc.length ≤ _; omega
  | t :: r, k, acc => by
    have ih := textFrom_le r (k + 1) (acc ++ (if k > 0 then ", " else "" : String) ++ t)
    have e : (acc ++ (if k > 0 then ", " else "" : String) ++ t).length ≤ acc.length + 2 + t.length := by
      rw [strLen_append, strLen_append]
      have : ((if k > 0 then ", " else "" : String) : Str).length ≤ 2 := by split <;> decide
      omega
    show (textFrom (k + 1) _ r).length ≤ _
    rw [piled_cons]
    omega
theorem listText_le (ts : List Str) : (listText ts).length ≤ piled ts + 2 := by
  unfold listText
  rw [strLen_append]
  have h := textFrom_le ts 0 "["
  have e1 : (("[" : String) : Str).length = 1 := rfl
  have e2 : (("]" : String) : Str).length = 1 := rfl
  omega
theorem tupleText_le (ts : List Str) : (tupleText ts).length ≤ piled ts + 4 := by
  unfold tupleText
  rw [strLen_append, strLen_append]
  have e1 : (("(" : String) : Str).length = 1 := rfl
  have e2 : ((if ts.length == 1 then ",)" else ")" : String) : Str).length ≤ 2 := by split <;> decide
  cases ts with
  | nil =>
    have : (Str.join ", " ([] : List Str)).length = 0 := rfl
    omega
  | cons t r =>
    have h := join_length_add (t :: r) (by simp)
    omega
theorem num_short : ∀ n : Fin 1000, (PyData.int (n.val : Int)).shown.length ≤ 5 ∧ (PyData.int (Int.negSucc n.val)).shown.length ≤ 5 := by decide +kernel
mutual
theorem sh_ok : ∀ (d : D), shOk d = true → d.isP = true ∧ d.toP.showable = true ∧ d.toP.shown.length ≤ shB d
  | .non, _ => ⟨rfl, rfl, by decide⟩
  | .bl b, _ => ⟨rfl, rfl, by cases b <;> decide⟩
  | .int i, h => by
    simp only [shOk, Bool.and_eq_true, decide_eq_true_eq] at h
    refine ⟨rfl, ?_, ?_⟩
    · show decide (i.natAbs.log2 < 1920) = true
      have : i.natAbs < 2 ^ 1920 := Nat.lt_of_lt_of_le (by omega : i.natAbs < 1000) (by
        have : (2 : Nat) ^ 10 ≤ 2 ^ 1920 := Nat.pow_le_pow_right (by decide) (by decide)
        omega)
      have h2 : i.natAbs.log2 < 1920 := by
        by_cases z : i.natAbs = 0
        · rw [z]; decide
        · exact (Nat.log2_lt z).mpr this
      exact decide_eq_true h2
    · show (PyData.int i).shown.length ≤ 5
      cases i with
      | ofNat n => exact (num_short ⟨n, by have := h.2; simp at this; omega⟩).1
      | negSucc n => exact (num_short ⟨n, by have := h.1; omega⟩).2
  | .str s, h => by
    simp only [shOk, List.all_eq_true, decide_eq_true_eq] at h
    exact ⟨rfl, rfl, PySem.StrLaws.reprText_len s fun c hc => by have := h c hc; omega⟩
  | .tup l, h => by
    obtain ⟨h1, h2, h3⟩ := sh_okL l h
    refine ⟨h1, h2, ?_⟩
    have := tupleText_le (PyData.shownAll (D.toPL l))
    show (tupleText (PyData.shownAll (D.toPL l))).length ≤ shBL l + 4
    omega
  | .lst l, h => by
    obtain ⟨h1, h2, h3⟩ := sh_okL l h
    refine ⟨h1, h2, ?_⟩
    have := listText_le (PyData.shownAll (D.toPL l))
    show (listText (PyData.shownAll (D.toPL l))).length ≤ shBL l + 4
    omega
  | .dct _, h => by cases h
  | .set _, h => by cases h
  | .fn _, h => by cases h
  | .bag, h => by cases h
  | .pr _, h => by cases h
theorem sh_okL : ∀ (l : List D), shOkL l = true → D.isPL l = true ∧ PyData.showableAll (D.toPL l) = true ∧ piled (PyData.shownAll (D.toPL l)) ≤ shBL l
  | [], _ => ⟨rfl, rfl, Nat.le_refl _⟩
  | d :: r, h => by
    simp only [shOkL, Bool.and_eq_true] at h
    obtain ⟨a1, a2, a3⟩ := sh_ok d h.1
    obtain ⟨b1, b2, b3⟩ := sh_okL r h.2
    refine ⟨?_, ?_, ?_⟩
    · simp [D.isPL, a1, b1]
    · show (PyData.showable d.toP && PyData.showableAll (D.toPL r)) = true
      rw [a2, b2]; rfl
    · show piled (PyData.shown d.toP :: PyData.shownAll (D.toPL r)) ≤ shB d + 2 + shBL r
      rw [piled_cons]
      omega
end
mutual
theorem toP_plain : ∀ (d : D), d.isP = true → d.toP.plain = true
  | .non, _ => rfl
  | .bl _, _ => rfl
  | .int _, _ => rfl
  | .str _, _ => rfl
  | .tup l, h => toPL_plain l h
  | .lst l, h => toPL_plain l h
  | .dct _, h => by cases h
  | .set _, h => by cases h
  | .fn _, h => by cases h
  | .bag, h => by cases h
  | .pr _, h => by cases h
theorem toPL_plain : ∀ (l : List D), D.isPL l = true → PyData.plainAll (D.toPL l) = true
  | [], _ => rfl
  | d :: r, h => by
    simp only [D.isPL, Bool.and_eq_true] at h
    show (PyData.plain d.toP && PyData.plainAll (D.toPL r)) = true
    rw [toP_plain d h.1, toPL_plain r h.2]; rfl
end
theorem eqD_refl {d : D} (h : d.isP = true) : eqD d d = true := PySem.SeqAt.eqv_refl_plain _ (toP_plain d h)
/-- it may be shown and compared -/
structure Sh (d : D) : Prop where
  ok : shOk d = true
  dep : d.dep ≤ 60
  len : shB d ≤ 1000000
theorem Sh.okP {d : D} (h : Sh d) : Wh.okP d = true := by
  unfold Wh.okP
  rw [(sh_ok d h.ok).1, decide_eq_true h.dep]
  rfl
theorem repr_sh {d : D} {f : Fl} (h : Sh d) : biF .repr [⟨d, f⟩] = some ⟨.str d.toP.shown, .D⟩ := by
  obtain ⟨h1, h2, h3⟩ := sh_ok d h.ok
  show (if Wh.okP d ∧ d.toP.showable = true ∧ d.toP.shown.length ≤ 1000000 then plain (.str d.toP.shown) else none) = _
  rw [if_pos ⟨h.okP, h2, by have := h.len; omega⟩]
  rfl
theorem eq_same {d : D} {f g : Fl} (h : Wh.okP d = true) : o2F .eq ⟨d, f⟩ ⟨d, g⟩ = some ⟨.bl true, .D⟩ := by
  have e : o2F .eq ⟨d, f⟩ ⟨d, g⟩ = if Wh.okP d && Wh.okP d then plain (.bl (eqD d d)) else none := rfl
  have hp : d.isP = true := by unfold Wh.okP at h; simp only [Bool.and_eq_true] at h; exact h.1
  rw [e, h, eqD_refl hp]
  rfl
section
variable {Pf : Nat → Option Fn} {W k : Nat} {B : Bag}
theorem sp_alike (h : Pf 15 = some (.py d__law_alike)) {d : D} (hd : Sh d) : callN Pf W (k + 1) 15 [d, d] B = .ok ⟨.bl true, .D⟩ B := by
  rw [callN_py h rfl]
  have e1 : ∀ s : Str, o2F .eq ⟨.str s, .D⟩ ⟨.str s, .D⟩ = some ⟨.bl true, .D⟩ := fun s => eq_same (by rfl)
  simp only [exL_nil, exL_cons, exS, evq_v, evq_k, evq_gc, evq_tup, evq_lst, evq_o2, evq_ch, evq_neg, evq_nt, evq_an, evq_or, evq_ife, evq_ix, evq_sl, evq_call, evq_bi, evq_isi, evq_me, evq_bg, evq_heard, evq_comp, evq_dcomp, evL, evO, evS, evG, evC, evAn, evOr, slot, get_0, get_s, put_0, put_s, wipe_nil, wipe_cons, List.set_cons_zero, List.set_cons_succ, freeze, freeze1, occ, occL, occO, occS, occG, occS2, List.foldl_nil, List.foldl_cons, List.append_nil, List.nil_append, List.cons_append, List.map_cons, List.map_nil, List.replicate_succ, List.replicate_zero, ofRes_ok, ofRes_exc, ok_bind, exc_bind, opt_some, outR_ret, outR_nx, outR_exc, asT_f, asT_t, flat_tup, flat_pr, flat_lst, flat_dct, flat_int, flat_str, flat_bl, flat_non, flat_bag, flatL_nil, flatL_cons, Bool.and_true, Bool.true_and, Bool.and_false, Bool.false_and, if_true, if_false, ite_true, ite_false, Bool.false_eq_true, List.contains_nil, Nat.reduceSub, Nat.reduceAdd, Nat.reduceEqDiff, lent_D, lent_R, lent_S, lent_BR, lent_BD, fU0, fL0, fU1, fL1, fU2, fL2, fU3, fL3, fU4, fL4, fU5, fL5, fU6, fL6, fU7, fL7, fU8, fL8, kids_lst, kids_tup, asgTg, asgL, mdOf, bRes, truth, d__law_alike, repr_sh hd, e1, eq_same hd.okP]
end
end Wh

set_option maxHeartbeats 1000000
/-! Wh, plain part: rows in order. -/
namespace Wh
open PySem
def rowD (r : List Int) : D := .tup (r.map D.int)
theorem toPL_ints : ∀ (l : List Int), D.toPL (l.map D.int) = l.map PyData.int
  | [] => rfl
  | a :: r => by show PyData.int a :: D.toPL (r.map D.int) = _; rw [toPL_ints r]; rfl
theorem leD_int {a b : Int} : leD (.int a) (.int b) = decide (a ≤ b) := by
  have e : leD (.int a) (.int b) = !(W.dataLt (.int b) (.int a)) := rfl
  rw [e, W.dataLt_int]
  by_cases h : b < a
  · simp [h]
  · simp [h]; omega
theorem leD_row {a b : List Int} : leD (rowD a) (rowD b) = !decide (b < a) := by
  have e : leD (rowD a) (rowD b) = !(W.dataLt (.tuple (D.toPL (b.map D.int))) (.tuple (D.toPL (a.map D.int)))) := rfl
  rw [e, toPL_ints, toPL_ints, W.dataLt_tuple]
  exact congrArg (!·) (W.dataLt_ints b a)
/-- numbers in order -/
def srt (l : List Int) : List Int := l.mergeSort fun a b => decide (a ≤ b)
theorem sort_ints (l : List Int) : (l.map D.int).mergeSort leD = (srt l).map D.int := by
  unfold srt
  rw [List.map_mergeSort]
  intro a _ b _
  exact leD_int.symm
theorem sort_rows {l : List (List Int)} (h : l.Pairwise (· < ·)) : (l.map rowD).mergeSort leD = l.map rowD := by
  refine List.mergeSort_of_pairwise ?_
  rw [List.pairwise_map]
  refine h.imp fun {a b} hab => ?_
  rw [leD_row, decide_eq_false (List.lt_asymm hab)]
  rfl
theorem sort_rows_perm {l l' : List (List Int)} (h : l'.Pairwise (· < ·)) (p : l'.Perm l) : (l.map rowD).mergeSort leD = l'.map rowD := by
  have e : (l.map rowD).mergeSort leD = (l.mergeSort fun a b => !decide (b < a)).map rowD := by
    rw [List.map_mergeSort]
    intro a _ b _
    exact leD_row.symm
  rw [e]
  congr 1
  have nl : ∀ {a b : List Int}, (!decide (b < a)) = true ↔ a ≤ b := fun {a b} => by rw [Bool.not_eq_true', decide_eq_false_iff_not, List.not_lt]
  refine List.Perm.eq_of_pairwise (le := fun a b : List Int => a ≤ b) (fun a b _ _ h1 h2 => List.le_antisymm h1 h2) ?_ ?_ ((List.mergeSort_perm l _).trans p.symm)
  · have ps := List.pairwise_mergeSort (le := fun a b : List Int => !decide (b < a)) (fun a b c h1 h2 => nl.mpr (List.le_trans (nl.mp h1) (nl.mp h2))) (fun a b => by
      rw [Bool.or_eq_true]
      exact (List.le_total a b).imp nl.mpr nl.mpr) l
    exact ps.imp fun {a b} z => nl.mp z
  · exact h.imp fun {a b} z => List.le_of_lt z
theorem srt_two {a b : Int} : srt [a, b] = if a ≤ b then [a, b] else [b, a] := by
  unfold srt
  by_cases h : a ≤ b
  · rw [if_pos h]
    exact List.mergeSort_of_pairwise (by simp [h])
  · rw [if_neg h]
    simp [List.mergeSort, List.merge, h]
theorem alike_int (a b : Int) : W.alike (.int a) (.int b) = true := rfl
theorem srtOk_ints {l : List Int} (h : l.length ≤ 1000000) : srtOk (l.map D.int) = true := by
  unfold srtOk
  have e1 : ((l.map D.int).all fun d => (l.map D.int).all fun e => W.alike d.toP e.toP) = true := by
    simp only [List.all_map, List.all_eq_true, Function.comp]
    exact fun a _ b _ => alike_int a b
  have e3 : ((l.map D.int).all fun d => decide (d.dep ≤ 60)) = true := by
    simp only [List.all_map, List.all_eq_true, Function.comp]
    exact fun a _ => by rfl
  have e4 : D.isPL (l.map D.int) = true := isPL_iff.mpr fun d hd => by
    obtain ⟨i, _, rfl⟩ := List.mem_map.mp hd
    rfl
  rw [e1, e3, e4, intsFlat, List.length_map, decide_eq_true h]
  simp only [Bool.and_eq_true, Bool.or_eq_true, and_true, true_and]
  refine .inr ?_
  simp only [List.all_map, List.all_eq_true, Function.comp]
  exact fun a _ => trivial
theorem alike_rows : ∀ (a b : List Int), W.alikeAll (a.map PyData.int) (b.map PyData.int) = true
  | [], [] => rfl
  | [], _ :: _ => rfl
  | _ :: _, [] => rfl
  | a :: r, b :: q => by
    show (W.alike (.int a) (.int b) && W.alikeAll (r.map PyData.int) (q.map PyData.int)) = true
    rw [alike_int, alike_rows r q]
    rfl
theorem rowD_flat (r : List Int) : (rowD r).flat = true := intsFlat r
theorem ints_dep (r : List Int) : D.depL (r.map D.int) ≤ 0 := depL_le.mpr fun d hd => by
  obtain ⟨i, _, rfl⟩ := List.mem_map.mp hd
  exact Nat.le_refl _
theorem rowD_dep (r : List Int) : (rowD r).dep ≤ 1 := by
  show D.depL (r.map D.int) + 1 ≤ 1
  have := ints_dep r
  omega
theorem ints_isP (r : List Int) : D.isPL (r.map D.int) = true := isPL_iff.mpr fun d hd => by
  obtain ⟨i, _, rfl⟩ := List.mem_map.mp hd
  rfl
theorem srtOk_rows {l : List (List Int)} (h : l.length ≤ 1000000) (ne : ∀ r ∈ l, r ≠ []) : srtOk (l.map rowD) = true := by
  unfold srtOk
  have e1 : ((l.map rowD).all fun d => (l.map rowD).all fun e => W.alike d.toP e.toP) = true := by
    simp only [List.all_map, List.all_eq_true, Function.comp]
    intro a _ b _
    show W.alike (.tuple (D.toPL (a.map D.int))) (.tuple (D.toPL (b.map D.int))) = true
    rw [toPL_ints, toPL_ints]
    exact alike_rows a b
  have e3 : ((l.map rowD).all fun d => decide (d.dep ≤ 60)) = true := by
    simp only [List.all_map, List.all_eq_true, Function.comp]
    exact fun a _ => decide_eq_true (by have := rowD_dep a; omega)
  have e4 : D.isPL (l.map rowD) = true := isPL_iff.mpr fun d hd => by
    obtain ⟨i, _, rfl⟩ := List.mem_map.mp hd
    exact ints_isP i
  have e5 : D.flatL (l.map rowD) = true := flatL_iff.mpr fun d hd => by
    obtain ⟨i, _, rfl⟩ := List.mem_map.mp hd
    exact rowD_flat i
  rw [e1, e3, e4, e5, List.length_map, decide_eq_true h]
  simp only [Bool.and_eq_true, Bool.or_eq_true, and_true, true_and]
  refine .inl ?_
  simp only [List.all_map, List.all_eq_true, Function.comp]
  intro a ha
  cases a with
  | nil => exact absurd rfl (ne _ ha)
  | cons x r => rfl
theorem bi_sort_ints {l : List Int} {f : Fl} (h : l.length ≤ 1000000) : biF .sorted [⟨.lst (l.map D.int), f⟩] = some ⟨.lst ((srt l).map D.int), .D⟩ := by
  have e : biF .sorted [⟨.lst (l.map D.int), f⟩] = if srtOk (l.map D.int) then plain (.lst ((l.map D.int).mergeSort leD)) else none := rfl
  rw [e, srtOk_ints h, sort_ints]
  rfl
theorem bi_sort_rows {l : List (List Int)} {f : Fl} (h : l.length ≤ 1000000) (ne : ∀ r ∈ l, r ≠ []) (o : l.Pairwise (· < ·)) : biF .sorted [⟨.lst (l.map rowD), f⟩] = some ⟨.lst (l.map rowD), .D⟩ := by
  have e : biF .sorted [⟨.lst (l.map rowD), f⟩] = if srtOk (l.map rowD) then plain (.lst ((l.map rowD).mergeSort leD)) else none := rfl
  rw [e, srtOk_rows h ne, sort_rows o]
  rfl
theorem bi_sort_perm {l l' : List (List Int)} {f : Fl} (h : l.length ≤ 1000000) (ne : ∀ r ∈ l, r ≠ []) (o : l'.Pairwise (· < ·)) (p : l'.Perm l) : biF .sorted [⟨.lst (l.map rowD), f⟩] = some ⟨.lst (l'.map rowD), .D⟩ := by
  have e : biF .sorted [⟨.lst (l.map rowD), f⟩] = if srtOk (l.map rowD) then plain (.lst ((l.map rowD).mergeSort leD)) else none := rfl
  rw [e, srtOk_rows h ne, sort_rows_perm o p]
  rfl
/-! ### sets of rows of two numbers -/
theorem rowsOf_map : ∀ (l : List (List Int)), rowsOf (l.map rowD) = some l
  | [] => rfl
  | a :: r => by
    have e : intsOf (a.map D.int) = some a := by
      induction a with
      | nil => rfl
      | cons x a ih => show (match intsOf (a.map D.int) with | some l => some (x :: l) | none => none) = _; rw [ih]
    show (match intsOf (a.map D.int), rowsOf (r.map rowD) with | some a, some b => some (a :: b) | _, _ => none) = _
    rw [e, rowsOf_map r]
theorem once_mem : ∀ {l : List (List Int)} {x : List Int}, x ∈ once l ↔ x ∈ l
  | [], x => Iff.rfl
  | a :: r, x => by
    have e : once (a :: r) = if r.contains a then once r else a :: once r := rfl
    rw [e]
    split
    · rename_i h
      rw [once_mem, List.mem_cons]
      exact ⟨.inr, fun z => z.elim (fun y => y ▸ List.contains_iff_mem.mp h) id⟩
    · rw [List.mem_cons, List.mem_cons, once_mem]
theorem once_nodup : ∀ (l : List (List Int)), (once l).Nodup
  | [] => List.nodup_nil
  | a :: r => by
    have e : once (a :: r) = if r.contains a then once r else a :: once r := rfl
    rw [e]
    split
    · exact once_nodup r
    · rename_i h
      rw [List.nodup_cons]
      exact ⟨fun z => h (List.contains_iff_mem.mpr (once_mem.mp z)), once_nodup r⟩
theorem once_len : ∀ (l : List (List Int)), (once l).length ≤ l.length
  | [] => Nat.le_refl _
  | a :: r => by
    have e : once (a :: r) = if r.contains a then once r else a :: once r := rfl
    have := once_len r
    rw [e]
    split
    · rw [List.length_cons]; omega
    · rw [List.length_cons, List.length_cons]; omega
/-- a couple below the bound -/
def Cpl (n : Int) (r : List Int) : Prop := ∃ a b, r = [a, b] ∧ 0 ≤ a ∧ a < b ∧ b < n
theorem code2 {a b : Int} : TS.code 1000 [a, b] = a * 1000 + b := by
  show a * 1000 ^ 1 + (b * 1000 ^ 0 + 0) = a * 1000 + b
  omega
theorem lt2 {a b c d : Int} : ([a, b] : List Int) < [c, d] ↔ a < c ∨ (a = c ∧ b < d) := by
  simp [List.cons_lt_cons_iff]
theorem sset_two {l : List (List Int)} {n : Int} (h : l.length < 64) (hc : ∀ r ∈ l, Cpl n r) (hn : n ≤ 1000) : ∃ l' : List (List Int), ssetF (l.map rowD) = some (l'.map rowD) ∧ l'.Pairwise (· < ·) ∧ (∀ r, r ∈ l' ↔ r ∈ l) ∧ l'.length ≤ l.length := by
  refine ⟨(once l).mergeSort fun a b => decide (TS.code 1000 a ≤ TS.code 1000 b), ?_, ?_, fun r => by rw [List.mem_mergeSort, once_mem], by rw [List.length_mergeSort]; exact once_len l⟩
  · unfold ssetF
    rw [rowsOf_map]
    dsimp only
    rw [if_pos]
    · rfl
    · refine ⟨h, List.all_eq_true.mpr fun r hr => ?_⟩
      have len : ∀ r ∈ l, r.length = 2 := fun r hr => by obtain ⟨a, b, rfl, _⟩ := hc r hr; rfl
      obtain ⟨a, b, rfl, h1, h2, h3⟩ := hc r hr
      have hd : ((l.head?).getD [0]).length = 2 := by
        cases l with
        | nil => cases hr
        | cons x q => exact len x List.mem_cons_self
      rw [hd]
      simp
      omega
  · have hp := List.pairwise_mergeSort (le := fun a b : List Int => decide (TS.code 1000 a ≤ TS.code 1000 b)) (fun a b c h1 h2 => by simp at *; omega) (fun a b => by simp; omega) (once l)
    have hn2 : ((once l).mergeSort fun a b => decide (TS.code 1000 a ≤ TS.code 1000 b)).Nodup := (List.mergeSort_perm (once l) _).nodup_iff.mpr (once_nodup l)
    refine (hp.and hn2).imp_of_mem fun {a b} ha hb hab => ?_
    obtain ⟨h1, h2⟩ := hab
    obtain ⟨a1, a2, rfl, p1, p2, p3⟩ := hc a (once_mem.mp (List.mem_mergeSort.mp ha))
    obtain ⟨b1, b2, rfl, q1, q2, q3⟩ := hc b (once_mem.mp (List.mem_mergeSort.mp hb))
    rw [code2, code2] at h1
    simp only [decide_eq_true_eq] at h1
    rw [lt2]
    by_cases e : a1 = b1
    · subst e
      refine .inr ⟨rfl, ?_⟩
      have : a2 ≠ b2 := fun z => h2 (by rw [z])
      omega
    · exact .inl (by omega)
end Wh

set_option maxHeartbeats 4000000
/-! Wh, plain part: nets. -/
namespace Wh
open PySem
/-- the letters' names -/
def NM : List Str := [Str.ofString "a", Str.ofString "b", Str.ofString "c", Str.ofString "d", Str.ofString "e", Str.ofString "f", Str.ofString "g", Str.ofString "h"]
def nm (i : Nat) : Str := NM.getD i Str.empty
def namesD (n : Nat) : D := .tup ((NM.take n).map D.str)
def doorD (q : Nat × Nat) : D := .tup [.str (nm q.1), .str (nm q.2)]
def doorsD (ds : List (Nat × Nat)) : D := .tup (ds.map doorD)
def netD (n : Nat) (ds : List (Nat × Nat)) : D := .tup [namesD n, doorsD ds]
def row2 (q : Nat × Nat) : List Int := [(q.1 : Int), (q.2 : Int)]
structure Good (n : Nat) (ds : List (Nat × Nat)) : Prop where
  n1 : 1 ≤ n
  n8 : n ≤ 8
  lt : ∀ q ∈ ds, q.1 < q.2 ∧ q.2 < n
  ord : (ds.map row2).Pairwise (· < ·)
  len : ds.length ≤ 64
theorem strs_flat (l : List Str) : D.flatL (l.map D.str) = true := flatL_iff.mpr fun d hd => by
  obtain ⟨s, _, rfl⟩ := List.mem_map.mp hd
  rfl
theorem namesD_flat {n : Nat} : (namesD n).flat = true := strs_flat _
theorem doorD_flat (q : Nat × Nat) : (doorD q).flat = true := rfl
theorem doors_flat (ds : List (Nat × Nat)) : D.flatL (ds.map doorD) = true := flatL_iff.mpr fun d hd => by
  obtain ⟨s, _, rfl⟩ := List.mem_map.mp hd
  rfl
theorem doorsD_flat {ds : List (Nat × Nat)} : (doorsD ds).flat = true := doors_flat ds
theorem netD_flat {n : Nat} {ds : List (Nat × Nat)} : (netD n ds).flat = true := by
  show (D.flat (namesD n) && (D.flat (doorsD ds) && true)) = true
  rw [namesD_flat, doorsD_flat]
  rfl
theorem ix_net0 {n : Nat} {ds : List (Nat × Nat)} : ixF ⟨netD n ds, .D⟩ ⟨.int 0, .D⟩ = some ⟨namesD n, .D⟩ := by
  show flagC .D (namesD n) = _
  unfold flagC
  rw [if_pos namesD_flat]
theorem ix_net1 {n : Nat} {ds : List (Nat × Nat)} : ixF ⟨netD n ds, .D⟩ ⟨.int 1, .D⟩ = some ⟨doorsD ds, .D⟩ := by
  show flagC .D (doorsD ds) = _
  unfold flagC
  rw [if_pos doorsD_flat]
theorem nm_at : ∀ {n a : Nat}, a < n → n ≤ 8 → (NM.take n)[a]? = some (nm a) := by
  intro n a h1 h2
  have h3 : a < 8 := by omega
  rw [List.getElem?_take_of_lt h1]
  match a, h3 with
  | 0, _ => rfl
  | 1, _ => rfl
  | 2, _ => rfl
  | 3, _ => rfl
  | 4, _ => rfl
  | 5, _ => rfl
  | 6, _ => rfl
  | 7, _ => rfl
theorem ix_names {n a : Nat} {f : Fl} (h1 : a < n) (h2 : n ≤ 8) : ixF ⟨namesD n, f⟩ ⟨.int (a : Int), .D⟩ = some ⟨.str (nm a), .D⟩ := by
  have e : L2.atI ((NM.take n).map D.str) (a : Int) = some (.str (nm a)) := L2.atI_nat (by rw [List.getElem?_map, nm_at h1 h2]; rfl)
  show (match L2.atI ((NM.take n).map D.str) (a : Int) with | some d => flagC (tf f) d | none => none) = _
  rw [e]
  rfl
theorem cut_to {α : Type} {xs : List α} {n : Nat} : cutL xs none (some (n : Int)) = xs.take n := by
  unfold cutL
  rw [HT.sIx_nat, HT.sIx_none, List.drop_zero, Nat.sub_zero]
  rcases Nat.le_total n xs.length with h | h
  · rw [Nat.min_eq_left h]
  · rw [Nat.min_eq_right h, List.take_length, List.take_of_length_le h]
theorem names_cut {n : Nat} {f : Fl} : slF ⟨.tup [.str (Str.ofString "a"), .str (Str.ofString "b"), .str (Str.ofString "c"), .str (Str.ofString "d"), .str (Str.ofString "e"), .str (Str.ofString "f"), .str (Str.ofString "g"), .str (Str.ofString "h")], f⟩ none (some (n : Int)) = some ⟨namesD n, .D⟩ := by
  show flagT (tf f) (cutL (NM.map D.str) none (some (n : Int))) = _
  rw [cut_to, ← List.map_take]
  unfold flagT
  rw [if_pos (strs_flat _)]
  rfl
theorem tuple_flat {l : List D} {f : Fl} (h : D.flatL l = true) : biF .tuple [⟨.lst l, f⟩] = some ⟨.tup l, .D⟩ := by
  show flagT f l = _
  unfold flagT
  rw [if_pos h]
theorem itemsW_lst {l : List D} {f : Fl} (h : D.flatL l = true) : itemsW ⟨.lst l, f⟩ = some l := if_pos h
theorem itemsW_tup {l : List D} {f : Fl} (h : D.flatL l = true) : itemsW ⟨.tup l, f⟩ = some l := if_pos h
theorem row2_flat {ds : List (Nat × Nat)} : D.flatL (ds.map fun q => rowD (row2 q)) = true := flatL_iff.mpr fun d hd => by
  obtain ⟨s, _, rfl⟩ := List.mem_map.mp hd
  rfl
section
variable {Pf : Nat → Option Fn} {C : Cs} {W k : Nat} {B : Bag} {n : Nat} {ds : List (Nat × Nat)}
theorem len_names (h : n ≤ 8) : biF .len [⟨namesD n, .D⟩] = some ⟨.int n, .D⟩ := by
  show some (RV.mk (.int (((NM.take n).map D.str).length : Int)) .D) = _
  rw [List.length_map, List.length_take, show NM.length = 8 from rfl, Nat.min_eq_left h]
theorem sp_net_by (h : Pf 18 = some (.py d__law_net_by)) (hn : n ≤ 8) (hd : ∀ q ∈ ds, q.1 < n ∧ q.2 < n) (hl : ds.length ≤ 1000000) : callN Pf W (k + 1) 18 [.int n, .lst (ds.map fun q => rowD (row2 q))] B = .ok ⟨netD n ds, .D⟩ B := by
  rw [callN_py h rfl]
  simp only [exL_nil, exL_cons, exS, evq_v, evq_k, evq_gc, evq_tup, evq_lst, evq_o2, evq_ch, evq_neg, evq_nt, evq_an, evq_or, evq_ife, evq_ix, evq_sl, evq_call, evq_bi, evq_isi, evq_me, evq_bg, evq_heard, evq_comp, evq_dcomp, evL, evO, evS, evG, evC, evAn, evOr, slot, get_0, get_s, put_0, put_s, wipe_nil, wipe_cons, List.set_cons_zero, List.set_cons_succ, freeze, freeze1, occ, occL, occO, occS, occG, occS2, List.foldl_nil, List.foldl_cons, List.append_nil, List.nil_append, List.cons_append, List.map_cons, List.map_nil, List.replicate_succ, List.replicate_zero, ofRes_ok, ofRes_exc, ok_bind, exc_bind, opt_some, outR_ret, outR_nx, outR_exc, asT_f, asT_t, flat_tup, flat_pr, flat_lst, flat_dct, flat_int, flat_str, flat_bl, flat_non, flat_bag, flatL_nil, flatL_cons, Bool.and_true, Bool.true_and, Bool.and_false, Bool.false_and, if_true, if_false, ite_true, ite_false, Bool.false_eq_true, List.contains_nil, Nat.reduceSub, Nat.reduceAdd, Nat.reduceEqDiff, lent_D, lent_R, lent_S, lent_BR, lent_BD, fU0, fL0, fU1, fL1, fU2, fL2, fU3, fL3, fU4, fL4, fU5, fL5, fU6, fL6, fU7, fL7, fU8, fL8, kids_lst, kids_tup, asgTg, asgL, mdOf, bRes, truth, d__law_net_by, names_cut, namesD_flat, itemsW_lst row2_flat]
  rw [comp_D (g := doorD) hl]
  · simp only [exL_nil, exL_cons, exS, evq_v, evq_k, evq_gc, evq_tup, evq_lst, evq_o2, evq_ch, evq_neg, evq_nt, evq_an, evq_or, evq_ife, evq_ix, evq_sl, evq_call, evq_bi, evq_isi, evq_me, evq_bg, evq_heard, evq_comp, evq_dcomp, evL, evO, evS, evG, evC, evAn, evOr, slot, get_0, get_s, put_0, put_s, wipe_nil, wipe_cons, List.set_cons_zero, List.set_cons_succ, freeze, freeze1, occ, occL, occO, occS, occG, occS2, List.foldl_nil, List.foldl_cons, List.append_nil, List.nil_append, List.cons_append, List.map_cons, List.map_nil, List.replicate_succ, List.replicate_zero, ofRes_ok, ofRes_exc, ok_bind, exc_bind, opt_some, outR_ret, outR_nx, outR_exc, asT_f, asT_t, flat_tup, flat_pr, flat_lst, flat_dct, flat_int, flat_str, flat_bl, flat_non, flat_bag, flatL_nil, flatL_cons, Bool.and_true, Bool.true_and, Bool.and_false, Bool.false_and, if_true, if_false, ite_true, ite_false, Bool.false_eq_true, List.contains_nil, Nat.reduceSub, Nat.reduceAdd, Nat.reduceEqDiff, lent_D, lent_R, lent_S, lent_BR, lent_BD, fU0, fL0, fU1, fL1, fU2, fL2, fU3, fL3, fU4, fL4, fU5, fL5, fU6, fL6, fU7, fL7, fU8, fL8, kids_lst, kids_tup, asgTg, asgL, mdOf, bRes, truth, tuple_flat (doors_flat ds)]
    rfl
  · intro q hq
    obtain ⟨h1, h2⟩ := hd q hq
    simp only [exL_nil, exL_cons, exS, evq_v, evq_k, evq_gc, evq_tup, evq_lst, evq_o2, evq_ch, evq_neg, evq_nt, evq_an, evq_or, evq_ife, evq_ix, evq_sl, evq_call, evq_bi, evq_isi, evq_me, evq_bg, evq_heard, evq_comp, evq_dcomp, evL, evO, evS, evG, evC, evAn, evOr, slot, get_0, get_s, put_0, put_s, wipe_nil, wipe_cons, List.set_cons_zero, List.set_cons_succ, freeze, freeze1, occ, occL, occO, occS, occG, occS2, List.foldl_nil, List.foldl_cons, List.append_nil, List.nil_append, List.cons_append, List.map_cons, List.map_nil, List.replicate_succ, List.replicate_zero, ofRes_ok, ofRes_exc, ok_bind, exc_bind, opt_some, outR_ret, outR_nx, outR_exc, asT_f, asT_t, flat_tup, flat_pr, flat_lst, flat_dct, flat_int, flat_str, flat_bl, flat_non, flat_bag, flatL_nil, flatL_cons, Bool.and_true, Bool.true_and, Bool.and_false, Bool.false_and, if_true, if_false, ite_true, ite_false, Bool.false_eq_true, List.contains_nil, Nat.reduceSub, Nat.reduceAdd, Nat.reduceEqDiff, lent_D, lent_R, lent_S, lent_BR, lent_BD, fU0, fL0, fU1, fL1, fU2, fL2, fU3, fL3, fU4, fL4, fU5, fL5, fU6, fL6, fU7, fL7, fU8, fL8, kids_lst, kids_tup, asgTg, asgL, mdOf, bRes, truth, turn, rowD, row2, ix_names h1 hn, ix_names h2 hn]
    rfl
end
end Wh

set_option maxHeartbeats 4000000
/-! Wh, plain part: drawn nets. -/
namespace Wh
open PySem
def cplD (q : Nat × Nat) : D := rowD (row2 q)
def pairsL (n : Nat) : List (Nat × Nat) := (List.range n).flatMap fun a => (List.range (n - (a + 1))).map fun b => (a, a + 1 + b)
/-- a drawn net -/
def IsNet (m : Nat) (d : D) : Prop := ∃ n ds, Good n ds ∧ n ≤ m ∧ d = netD n ds
section
variable {Pf : Nat → Option Fn} {C : Cs} {W k : Nat} {B : Bag} {n : Nat} {ds : List (Nat × Nat)}
theorem sp_some (h13 : Pf 13 = some (.py d__law_take)) (h14 : Pf 14 = some (.py d__law_some)) {l : List D} (hf : D.flatL l = true) (hl : 0 < l.length ∧ l.length < 1000000) (hB : BOk B) : EvTo (callN Pf W (k + 2) 14 [.bag, .lst l] B) fun r B' => (∃ d ∈ l, r = ⟨d, .D⟩) ∧ BOk B' := by
  obtain ⟨v, B', e, h1, h2, h3⟩ := sp_take (k := k) (W := W) h13 (m := (l.length : Int)) ⟨by omega, by omega⟩ hB
  have hv : v.toNat < l.length := by omega
  have hc : callR (callN Pf W (k + 1)) 13 [⟨.bag, .D⟩, ⟨.int (l.length : Int), .D⟩] B = .ok ⟨.int v, .D⟩ B' := callR_flat e rfl
  have hlen : ∀ f, biF .len [⟨.lst l, f⟩] = some ⟨.int (l.length : Int), .D⟩ := fun _ => rfl
  have hix : ∀ f, ixF ⟨.lst l, f⟩ ⟨.int v, .D⟩ = some ⟨l[v.toNat], .D⟩ := fun f => by
    have : L2.atI l v = some l[v.toNat] := by
      have := L2.atI_nat (xs := l) (j := v.toNat) (List.getElem?_eq_getElem hv)
      rwa [Int.toNat_of_nonneg h1] at this
    show (match L2.atI l v with | some d => flagC f d | none => none) = _
    rw [this]
    show flagC f _ = _
    unfold flagC
    rw [if_pos (flatL_iff.mp hf _ (List.getElem_mem hv))]
  have hfl := flatL_iff.mp hf _ (List.getElem_mem hv)
  refine ⟨⟨l[v.toNat], .D⟩, B', ?_, ⟨_, List.getElem_mem hv, rfl⟩, h3⟩
  rw [callN_py h14 rfl]
  simp only [exL_nil, exL_cons, exS, evq_v, evq_k, evq_gc, evq_tup, evq_lst, evq_o2, evq_ch, evq_neg, evq_nt, evq_an, evq_or, evq_ife, evq_ix, evq_sl, evq_call, evq_bi, evq_isi, evq_me, evq_bg, evq_heard, evq_comp, evq_dcomp, evL, evO, evS, evG, evC, evAn, evOr, slot, get_0, get_s, put_0, put_s, wipe_nil, wipe_cons, List.set_cons_zero, List.set_cons_succ, freeze, freeze1, occ, occL, occO, occS, occG, occS2, List.foldl_nil, List.foldl_cons, List.append_nil, List.nil_append, List.cons_append, List.map_cons, List.map_nil, List.replicate_succ, List.replicate_zero, ofRes_ok, ofRes_exc, ok_bind, exc_bind, opt_some, outR_ret, outR_nx, outR_exc, asT_f, asT_t, flat_tup, flat_pr, flat_lst, flat_dct, flat_int, flat_str, flat_bl, flat_non, flat_bag, flatL_nil, flatL_cons, Bool.and_true, Bool.true_and, Bool.and_false, Bool.false_and, if_true, if_false, ite_true, ite_false, Bool.false_eq_true, List.contains_nil, Nat.reduceSub, Nat.reduceAdd, Nat.reduceEqDiff, lent_D, lent_R, lent_S, lent_BR, lent_BD, fU0, fL0, fU1, fL1, fU2, fL2, fU3, fL3, fU4, fL4, fU5, fL5, fU6, fL6, fU7, fL7, fU8, fL8, kids_lst, kids_tup, asgTg, asgL, mdOf, bRes, truth, d__law_some, hlen, hc, hix, hfl]
theorem sp_pairs (h : Pf 16 = some (.py d__law_pairs)) (hn : n ≤ 6) : callN Pf W (k + 1) 16 [.int n] B = .ok ⟨.lst ((pairsL n).map cplD), .D⟩ B := by
  rw [callN_py h rfl]
  match n, hn with
  | 0, _ => rfl
  | 1, _ => rfl
  | 2, _ => rfl
  | 3, _ => rfl
  | 4, _ => rfl
  | 5, _ => rfl
  | 6, _ => rfl
theorem pairs_ok : ∀ n, n ≤ 6 → (∀ q ∈ pairsL n, q.1 < q.2 ∧ q.2 < n) ∧ ((pairsL n).map row2).Pairwise (· < ·) ∧ (pairsL n).length ≤ 15 := by
  intro n hn
  match n, hn with
  | 0, _ => decide +kernel
  | 1, _ => decide +kernel
  | 2, _ => decide +kernel
  | 3, _ => decide +kernel
  | 4, _ => decide +kernel
  | 5, _ => decide +kernel
  | 6, _ => decide +kernel

theorem sp_takeN (h13 : Pf 13 = some (.py d__law_take)) {m : Nat} (hm : 0 < m ∧ m < 1073741824) (hB : BOk B) : ∃ (v : Nat) (B' : Bag), callR (callN Pf W (k + 1)) 13 [⟨.bag, .D⟩, ⟨.int (m : Int), .D⟩] B = .ok ⟨.int (v : Int), .D⟩ B' ∧ v < m ∧ BOk B' := by
  obtain ⟨v, B', e, h1, h2, h3⟩ := sp_take (k := k) (W := W) h13 (m := (m : Int)) ⟨by omega, by omega⟩ hB
  refine ⟨v.toNat, B', ?_, by omega, h3⟩
  rw [Int.toNat_of_nonneg h1]
  exact callR_flat e rfl
theorem cplD_flat (q : Nat × Nat) : (cplD q).flat = true := rfl
theorem cpl_flat (l : List (Nat × Nat)) : D.flatL (l.map cplD) = true := row2_flat
/-- couples that are left of some -/
theorem sub_pairs {l : List (Nat × Nat)} (h : l.Sublist (pairsL n)) (hn : n ≤ 6) : (∀ q ∈ l, q.1 < q.2 ∧ q.2 < n) ∧ (l.map row2).Pairwise (· < ·) ∧ l.length ≤ 15 := by
  obtain ⟨h1, h2, h3⟩ := pairs_ok n hn
  exact ⟨fun q hq => h1 q (h.subset hq), h2.sublist (h.map row2), Nat.le_trans h.length_le h3⟩
/-- [couple for couple in _law_pairs(many) if _law_take(bag, m) == 0] -/
theorem draw_doors (h13 : Pf 13 = some (.py d__law_take)) (h16 : Pf 16 = some (.py d__law_pairs)) {m i j b : Nat} {δ : Env} (hm : 0 < m ∧ m < 1073741824) (hn : n ≤ 6) (hB : BOk B) (hi : δ.get i = some (.S, .int (n : Int))) (hb : ∀ q, (Env.put (δ.set j none) j .S (cplD q)).get b = some (.S, .bag)) (hj : ∀ q, (Env.put (δ.set j none) j .S (cplD q)).get j = some (.S, cplD q)) :
    EvTo (ev (callN Pf W (k + 1)) (.comp [j] (.v j) (.one (.n j) (.e (.call 16 (.cons (.v i) .nil))) (.cons (.o2 .eq (.call 13 (.cons (.v b) (.cons (.k (.int (m : Int))) .nil))) (.k (.int 0))) .nil))) false δ B)
      fun r B' => BOk B' ∧ ∃ l : List (Nat × Nat), l.Sublist (pairsL n) ∧ r = ⟨.lst (l.map cplD), .D⟩ := by
  have hp : callR (callN Pf W (k + 1)) 16 [⟨.int (n : Int), .D⟩] B = .ok ⟨.lst ((pairsL n).map cplD), .D⟩ B := callR_D (sp_pairs h16 hn)
  refine comp_to (l := (pairsL n).map cplD) (P := BOk) (Q := fun d xs => xs = [⟨d, .D⟩] ∨ xs = []) ?_ hB ?_ ?_
  · simp only [exL_nil, exL_cons, exS, evq_v, evq_k, evq_gc, evq_tup, evq_lst, evq_o2, evq_ch, evq_neg, evq_nt, evq_an, evq_or, evq_ife, evq_ix, evq_sl, evq_call, evq_bi, evq_isi, evq_me, evq_bg, evq_heard, evq_comp, evq_dcomp, evL, evO, evS, evG, evC, evAn, evOr, slot, get_0, get_s, put_0, put_s, wipe_nil, wipe_cons, List.set_cons_zero, List.set_cons_succ, freeze, freeze1, occ, occL, occO, occS, occG, occS2, List.foldl_nil, List.foldl_cons, List.append_nil, List.nil_append, List.cons_append, List.map_cons, List.map_nil, List.replicate_succ, List.replicate_zero, ofRes_ok, ofRes_exc, ok_bind, exc_bind, opt_some, outR_ret, outR_nx, outR_exc, asT_f, asT_t, flat_tup, flat_pr, flat_lst, flat_dct, flat_int, flat_str, flat_bl, flat_non, flat_bag, flatL_nil, flatL_cons, Bool.and_true, Bool.true_and, Bool.and_false, Bool.false_and, if_true, if_false, ite_true, ite_false, Bool.false_eq_true, List.contains_nil, Nat.reduceSub, Nat.reduceAdd, Nat.reduceEqDiff, lent_D, lent_R, lent_S, lent_BR, lent_BD, fU0, fL0, fU1, fL1, fU2, fL2, fU3, fL3, fU4, fL4, fU5, fL5, fU6, fL6, fU7, fL7, fU8, fL8, kids_lst, kids_tup, asgTg, asgL, mdOf, bRes, truth, hi, hp, itemsW_lst (cpl_flat _)]
  · intro d hd B1 hB1
    obtain ⟨q, _, rfl⟩ := List.mem_map.mp hd
    obtain ⟨v, B2, h1, h2, h3⟩ := sp_takeN (k := k) (W := W) h13 hm hB1
    by_cases hv : (v : Int) = 0
    · exact ⟨_, B2, by simp only [exL_nil, exL_cons, exS, evq_v, evq_k, evq_gc, evq_tup, evq_lst, evq_o2, evq_ch, evq_neg, evq_nt, evq_an, evq_or, evq_ife, evq_ix, evq_sl, evq_call, evq_bi, evq_isi, evq_me, evq_bg, evq_heard, evq_comp, evq_dcomp, evL, evO, evS, evG, evC, evAn, evOr, slot, get_0, get_s, put_0, put_s, wipe_nil, wipe_cons, List.set_cons_zero, List.set_cons_succ, freeze, freeze1, occ, occL, occO, occS, occG, occS2, List.foldl_nil, List.foldl_cons, List.append_nil, List.nil_append, List.cons_append, List.map_cons, List.map_nil, List.replicate_succ, List.replicate_zero, ofRes_ok, ofRes_exc, ok_bind, exc_bind, opt_some, outR_ret, outR_nx, outR_exc, asT_f, asT_t, flat_tup, flat_pr, flat_lst, flat_dct, flat_int, flat_str, flat_bl, flat_non, flat_bag, flatL_nil, flatL_cons, Bool.and_true, Bool.true_and, Bool.and_false, Bool.false_and, if_true, if_false, ite_true, ite_false, Bool.false_eq_true, List.contains_nil, Nat.reduceSub, Nat.reduceAdd, Nat.reduceEqDiff, lent_D, lent_R, lent_S, lent_BR, lent_BD, fU0, fL0, fU1, fL1, fU2, fL2, fU3, fL3, fU4, fL4, fU5, fL5, fU6, fL6, fU7, fL7, fU8, fL8, kids_lst, kids_tup, asgTg, asgL, mdOf, bRes, truth, turn, cplD_flat, hb, hj, h1, eq_int, hv, decide_true], .inl rfl, h3⟩
    · exact ⟨_, B2, by simp only [exL_nil, exL_cons, exS, evq_v, evq_k, evq_gc, evq_tup, evq_lst, evq_o2, evq_ch, evq_neg, evq_nt, evq_an, evq_or, evq_ife, evq_ix, evq_sl, evq_call, evq_bi, evq_isi, evq_me, evq_bg, evq_heard, evq_comp, evq_dcomp, evL, evO, evS, evG, evC, evAn, evOr, slot, get_0, get_s, put_0, put_s, wipe_nil, wipe_cons, List.set_cons_zero, List.set_cons_succ, freeze, freeze1, occ, occL, occO, occS, occG, occS2, List.foldl_nil, List.foldl_cons, List.append_nil, List.nil_append, List.cons_append, List.map_cons, List.map_nil, List.replicate_succ, List.replicate_zero, ofRes_ok, ofRes_exc, ok_bind, exc_bind, opt_some, outR_ret, outR_nx, outR_exc, asT_f, asT_t, flat_tup, flat_pr, flat_lst, flat_dct, flat_int, flat_str, flat_bl, flat_non, flat_bag, flatL_nil, flatL_cons, Bool.and_true, Bool.true_and, Bool.and_false, Bool.false_and, if_true, if_false, ite_true, ite_false, Bool.false_eq_true, List.contains_nil, Nat.reduceSub, Nat.reduceAdd, Nat.reduceEqDiff, lent_D, lent_R, lent_S, lent_BR, lent_BD, fU0, fL0, fU1, fL1, fU2, fL2, fU3, fL3, fU4, fL4, fU5, fL5, fU6, fL6, fU7, fL7, fU8, fL8, kids_lst, kids_tup, asgTg, asgL, mdOf, bRes, truth, turn, cplD_flat, hb, hj, h1, eq_int, hv, decide_false], .inr rfl, h3⟩
  · intro xss B1 hp1 hB1
    obtain ⟨l, h1, h2⟩ := hp1.sub
    have h3 := (sub_pairs h1 hn).2.2
    refine ⟨by rw [h2, List.length_map]; omega, fun r hr => by rw [h2] at hr; obtain ⟨q, _, rfl⟩ := List.mem_map.mp hr; rfl, hB1, l, h1, ?_⟩
    rw [h2, List.map_map]
    rfl

/-- [(_law_take(bag, k), k) for k in range(1, many)] -/
theorem draw_tree (h13 : Pf 13 = some (.py d__law_take)) {i j b : Nat} {δ : Env} (hn : 1 ≤ n ∧ n ≤ 6) (hB : BOk B) (hi : δ.get i = some (.S, .int (n : Int))) (hb : ∀ q : Int, (Env.put (δ.set j none) j .S (.int q)).get b = some (.S, .bag)) (hj : ∀ q : Int, (Env.put (δ.set j none) j .S (.int q)).get j = some (.S, .int q)) :
    EvTo (ev (callN Pf W (k + 1)) (.comp [j] (.tup (.cons (.call 13 (.cons (.v b) (.cons (.v j) .nil))) (.cons (.v j) .nil))) (.one (.n j) (.rng (.cons (.k (.int 1)) (.cons (.v i) .nil))) .nil)) false δ B)
      fun r B' => BOk B' ∧ ∃ l : List (Nat × Nat), (∀ q ∈ l, q.1 < q.2 ∧ q.2 < n) ∧ l.length ≤ 5 ∧ r = ⟨.lst (l.map cplD), .D⟩ := by
  refine comp_to (l := rangeL 1 ((n : Int) - 1).toNat) (P := BOk) (Q := fun d xs => ∃ q : Nat × Nat, xs = [⟨cplD q, .D⟩] ∧ q.1 < q.2 ∧ q.2 < n) ?_ hB ?_ ?_
  · have e : rngF [⟨.int 1, .D⟩, ⟨.int (n : Int), .D⟩] = some (rangeL 1 ((n : Int) - 1).toNat) := if_pos ⟨by omega, by omega, by omega, by omega⟩
    simp only [exL_nil, exL_cons, exS, evq_v, evq_k, evq_gc, evq_tup, evq_lst, evq_o2, evq_ch, evq_neg, evq_nt, evq_an, evq_or, evq_ife, evq_ix, evq_sl, evq_call, evq_bi, evq_isi, evq_me, evq_bg, evq_heard, evq_comp, evq_dcomp, evL, evO, evS, evG, evC, evAn, evOr, slot, get_0, get_s, put_0, put_s, wipe_nil, wipe_cons, List.set_cons_zero, List.set_cons_succ, freeze, freeze1, occ, occL, occO, occS, occG, occS2, List.foldl_nil, List.foldl_cons, List.append_nil, List.nil_append, List.cons_append, List.map_cons, List.map_nil, List.replicate_succ, List.replicate_zero, ofRes_ok, ofRes_exc, ok_bind, exc_bind, opt_some, outR_ret, outR_nx, outR_exc, asT_f, asT_t, flat_tup, flat_pr, flat_lst, flat_dct, flat_int, flat_str, flat_bl, flat_non, flat_bag, flatL_nil, flatL_cons, Bool.and_true, Bool.true_and, Bool.and_false, Bool.false_and, if_true, if_false, ite_true, ite_false, Bool.false_eq_true, List.contains_nil, Nat.reduceSub, Nat.reduceAdd, Nat.reduceEqDiff, lent_D, lent_R, lent_S, lent_BR, lent_BD, fU0, fL0, fU1, fL1, fU2, fL2, fU3, fL3, fU4, fL4, fU5, fL5, fU6, fL6, fU7, fL7, fU8, fL8, kids_lst, kids_tup, asgTg, asgL, mdOf, bRes, truth, hi, e]
  · intro d hd B1 hB1
    obtain ⟨q, hq, rfl⟩ := List.mem_map.mp hd
    have hq := List.mem_range.mp hq
    have hq2 : (1 : Int) + (q : Int) = ((q + 1 : Nat) : Int) := by omega
    obtain ⟨v, B2, h1, h2, h3⟩ := sp_takeN (k := k) (W := W) h13 (m := q + 1) ⟨by omega, by omega⟩ hB1
    exact ⟨[⟨cplD (v, q + 1), .D⟩], B2, by simp only [exL_nil, exL_cons, exS, evq_v, evq_k, evq_gc, evq_tup, evq_lst, evq_o2, evq_ch, evq_neg, evq_nt, evq_an, evq_or, evq_ife, evq_ix, evq_sl, evq_call, evq_bi, evq_isi, evq_me, evq_bg, evq_heard, evq_comp, evq_dcomp, evL, evO, evS, evG, evC, evAn, evOr, slot, get_0, get_s, put_0, put_s, wipe_nil, wipe_cons, List.set_cons_zero, List.set_cons_succ, freeze, freeze1, occ, occL, occO, occS, occG, occS2, List.foldl_nil, List.foldl_cons, List.append_nil, List.nil_append, List.cons_append, List.map_cons, List.map_nil, List.replicate_succ, List.replicate_zero, ofRes_ok, ofRes_exc, ok_bind, exc_bind, opt_some, outR_ret, outR_nx, outR_exc, asT_f, asT_t, flat_tup, flat_pr, flat_lst, flat_dct, flat_int, flat_str, flat_bl, flat_non, flat_bag, flatL_nil, flatL_cons, Bool.and_true, Bool.true_and, Bool.and_false, Bool.false_and, if_true, if_false, ite_true, ite_false, Bool.false_eq_true, List.contains_nil, Nat.reduceSub, Nat.reduceAdd, Nat.reduceEqDiff, lent_D, lent_R, lent_S, lent_BR, lent_BD, fU0, fL0, fU1, fL1, fU2, fL2, fU3, fL3, fU4, fL4, fU5, fL5, fU6, fL6, fU7, fL7, fU8, fL8, kids_lst, kids_tup, asgTg, asgL, mdOf, bRes, truth, turn, hq2, hb, hj, h1]; rfl, ⟨(v, q + 1), rfl, h2, by show q + 1 < n; omega⟩, h3⟩
  · intro xss B1 hp1 hB1
    have : ∃ l : List (Nat × Nat), xss.flatten = (l.map fun q => (⟨cplD q, .D⟩ : RV)) ∧ (∀ q ∈ l, q.1 < q.2 ∧ q.2 < n) ∧ l.length = (rangeL 1 ((n : Int) - 1).toNat).length := by
      clear hB1
      generalize rangeL 1 ((n : Int) - 1).toNat = L at hp1
      induction hp1 with
      | nil => exact ⟨[], rfl, (fun q hq => by cases hq), rfl⟩
      | cons a _ ih =>
        obtain ⟨q, rfl, h1, h2⟩ := a
        obtain ⟨l, g1, g2, g3⟩ := ih
        exact ⟨q :: l, by rw [List.flatten_cons, g1]; rfl, fun p hp => (List.mem_cons.mp hp).elim (fun z => z ▸ ⟨h1, h2⟩) (g2 p), congrArg (· + 1) g3⟩
    obtain ⟨l, h1, h2, h3⟩ := this
    have h4 : l.length ≤ 5 := by
      rw [h3]
      unfold rangeL
      rw [List.length_map, List.length_range]
      omega
    refine ⟨by rw [h1, List.length_map]; omega, fun r hr => by rw [h1] at hr; obtain ⟨q, _, rfl⟩ := List.mem_map.mp hr; rfl, hB1, l, h2, h4, ?_⟩
    rw [h1, List.map_map]
    rfl
theorem add_cpl {l r : List (Nat × Nat)} (h : l.length + r.length ≤ 1000000) {f g : Fl} : o2F .add ⟨.lst (l.map cplD), f⟩ ⟨.lst (r.map cplD), g⟩ = some ⟨.lst ((l ++ r).map cplD), .D⟩ := by
  have e : o2F .add ⟨.lst (l.map cplD), f⟩ ⟨.lst (r.map cplD), g⟩ = if (l.map cplD).length + (r.map cplD).length ≤ 1000000 then flagN (if f = .BD ∨ g = .BD then .BD else .S) (l.map cplD ++ r.map cplD) (.lst (l.map cplD ++ r.map cplD)) else none := rfl
  rw [e, if_pos (by rw [List.length_map, List.length_map]; exact h), ← List.map_append]
  unfold flagN
  rw [if_pos (cpl_flat _)]
/-- sorted(set(couples)) -/
theorem sset_cpl {l : List (Nat × Nat)} {f : Fl} (h : l.length < 64) (hc : ∀ q ∈ l, q.1 < q.2 ∧ q.2 < n) (hn : n ≤ 8) : ∃ l' : List (Nat × Nat), biF .sset [⟨.lst (l.map cplD), f⟩] = some ⟨.lst (l'.map cplD), .D⟩ ∧ (∀ q ∈ l', q.1 < q.2 ∧ q.2 < n) ∧ (l'.map row2).Pairwise (· < ·) ∧ l'.length ≤ 64 := by
  have hr : ∀ r ∈ l.map row2, Cpl (n : Int) r := fun r hr => by
    obtain ⟨q, hq, rfl⟩ := List.mem_map.mp hr
    have := hc q hq
    exact ⟨_, _, rfl, by omega, by omega, by omega⟩
  obtain ⟨l', h1, h2, h3, h4⟩ := sset_two (l := l.map row2) (n := (n : Int)) (by rw [List.length_map]; exact h) hr (by omega)
  have back : ∀ (l' : List (List Int)), (∀ r ∈ l', Cpl (n : Int) r) → ∃ ds : List (Nat × Nat), l' = ds.map row2 ∧ ∀ q ∈ ds, q.1 < q.2 ∧ q.2 < n := by
    intro l' hl
    induction l' with
    | nil => exact ⟨[], rfl, fun q hq => by cases hq⟩
    | cons r t ih =>
      obtain ⟨ds, g1, g2⟩ := ih fun r hr => hl r (List.mem_cons_of_mem _ hr)
      obtain ⟨a, b, rfl, p1, p2, p3⟩ := hl r List.mem_cons_self
      refine ⟨(a.toNat, b.toNat) :: ds, ?_, fun q hq => (List.mem_cons.mp hq).elim (fun z => by subst z; show a.toNat < b.toNat ∧ b.toNat < n; omega) (g2 q)⟩
      rw [List.map_cons, ← g1]
      congr 1
      show [a, b] = [((a.toNat : Nat) : Int), ((b.toNat : Nat) : Int)]
      rw [Int.toNat_of_nonneg p1, Int.toNat_of_nonneg (by omega)]
  obtain ⟨ds, g1, g2⟩ := back l' fun r hr' => hr r ((h3 r).mp hr')
  subst g1
  refine ⟨ds, ?_, g2, h2, ?_⟩
  · have e : biF .sset [⟨.lst (l.map cplD), f⟩] = (match ssetF (l.map cplD) with | some r => plain (.lst r) | none => none) := rfl
    have e2 : l.map cplD = (l.map row2).map rowD := by rw [List.map_map]; rfl
    rw [e, e2, h1, List.map_map]
    rfl
  · rw [List.length_map, List.length_map] at h4
    omega

theorem sp_law_net (h13 : Pf 13 = some (.py d__law_take)) (h16 : Pf 16 = some (.py d__law_pairs)) (h17 : Pf 17 = some (.py d__law_net)) (hB : BOk B) : EvTo (callN Pf W (k + 2) 17 [.bag, .int 6] B) fun r B' => IsNet 6 r.d ∧ r.f = .D ∧ BOk B' := by
  refine call_to h17 rfl ?_
  show To (exL _ _ (.cons _ (.cons _ (.cons _ (.cons _ _)))) [] [some (.S, .bag), some (.S, .int 6), none, none, none, none, none, none, none] B) _
  refine To.cons (Q := fun δ B => ∃ n : Nat, 1 ≤ n ∧ n ≤ 6 ∧ BOk B ∧ δ = [some (.S, .bag), some (.S, .int 6), some (.S, .int (n : Int)), none, none, none, none, none, none]) ?_ ?_
  · obtain ⟨v, B1, h1, h2, h3⟩ := sp_takeN (k := k) (W := W) h13 (m := 6) (by omega) hB
    have h1 : callR (callN Pf W (k + 1)) 13 [⟨.bag, .D⟩, ⟨.int 6, .D⟩] B = .ok ⟨.int (v : Int), .D⟩ B1 := h1
    have e : (1 : Int) + (v : Int) = ((v + 1 : Nat) : Int) := by omega
    exact .of (by simp only [exL_nil, exL_cons, exS, evq_v, evq_k, evq_gc, evq_tup, evq_lst, evq_o2, evq_ch, evq_neg, evq_nt, evq_an, evq_or, evq_ife, evq_ix, evq_sl, evq_call, evq_bi, evq_isi, evq_me, evq_bg, evq_heard, evq_comp, evq_dcomp, evL, evO, evS, evG, evC, evAn, evOr, slot, get_0, get_s, put_0, put_s, wipe_nil, wipe_cons, List.set_cons_zero, List.set_cons_succ, freeze, freeze1, occ, occL, occO, occS, occG, occS2, List.foldl_nil, List.foldl_cons, List.append_nil, List.nil_append, List.cons_append, List.map_cons, List.map_nil, List.replicate_succ, List.replicate_zero, ofRes_ok, ofRes_exc, ok_bind, exc_bind, opt_some, outR_ret, outR_nx, outR_exc, asT_f, asT_t, flat_tup, flat_pr, flat_lst, flat_dct, flat_int, flat_str, flat_bl, flat_non, flat_bag, flatL_nil, flatL_cons, Bool.and_true, Bool.true_and, Bool.and_false, Bool.false_and, if_true, if_false, ite_true, ite_false, Bool.false_eq_true, List.contains_nil, Nat.reduceSub, Nat.reduceAdd, Nat.reduceEqDiff, lent_D, lent_R, lent_S, lent_BR, lent_BD, fU0, fL0, fU1, fL1, fU2, fL2, fU3, fL3, fU4, fL4, fU5, fL5, fU6, fL6, fU7, fL7, fU8, fL8, kids_lst, kids_tup, asgTg, asgL, mdOf, bRes, truth, h1, add_int, e]) ⟨v + 1, by omega, by omega, h3, rfl⟩
  rintro δ B1 ⟨n, n1, n6, hB1, rfl⟩
  refine To.cons (Q := fun δ B => B = B1 ∧ δ = [some (.S, .bag), some (.S, .int 6), some (.S, .int (n : Int)), some (.S, namesD n), none, none, none, none, none]) ?_ ?_
  · exact .of (by simp only [exL_nil, exL_cons, exS, evq_v, evq_k, evq_gc, evq_tup, evq_lst, evq_o2, evq_ch, evq_neg, evq_nt, evq_an, evq_or, evq_ife, evq_ix, evq_sl, evq_call, evq_bi, evq_isi, evq_me, evq_bg, evq_heard, evq_comp, evq_dcomp, evL, evO, evS, evG, evC, evAn, evOr, slot, get_0, get_s, put_0, put_s, wipe_nil, wipe_cons, List.set_cons_zero, List.set_cons_succ, freeze, freeze1, occ, occL, occO, occS, occG, occS2, List.foldl_nil, List.foldl_cons, List.append_nil, List.nil_append, List.cons_append, List.map_cons, List.map_nil, List.replicate_succ, List.replicate_zero, ofRes_ok, ofRes_exc, ok_bind, exc_bind, opt_some, outR_ret, outR_nx, outR_exc, asT_f, asT_t, flat_tup, flat_pr, flat_lst, flat_dct, flat_int, flat_str, flat_bl, flat_non, flat_bag, flatL_nil, flatL_cons, Bool.and_true, Bool.true_and, Bool.and_false, Bool.false_and, if_true, if_false, ite_true, ite_false, Bool.false_eq_true, List.contains_nil, Nat.reduceSub, Nat.reduceAdd, Nat.reduceEqDiff, lent_D, lent_R, lent_S, lent_BR, lent_BD, fU0, fL0, fU1, fL1, fU2, fL2, fU3, fL3, fU4, fL4, fU5, fL5, fU6, fL6, fU7, fL7, fU8, fL8, kids_lst, kids_tup, asgTg, asgL, mdOf, bRes, truth, names_cut, namesD_flat]) ⟨rfl, rfl⟩
  rintro δ B2 ⟨rfl, rfl⟩
  refine To.cons (Q := fun δ B => BOk B ∧ ∃ l : List (Nat × Nat), l.Sublist (pairsL n) ∧ δ = [some (.S, .bag), some (.S, .int 6), some (.S, .int (n : Int)), some (.S, namesD n), some (.D, .lst (l.map cplD)), none, none, none, none]) ?_ ?_
  · refine asg_to rfl (draw_doors (m := 3) (n := n) h13 h16 (by omega) n6 hB1 rfl (fun _ => rfl) (fun _ => rfl)) ?_
    rintro r B3 ⟨hB3, l, hl, rfl⟩
    exact ⟨_, rfl, hB3, l, hl, rfl⟩
  rintro δ B3 ⟨hB3, l, hl, rfl⟩
  obtain ⟨s1, s2, s3⟩ := sub_pairs hl n6
  refine To.cons (Q := fun δ B => BOk B ∧ ∃ ds : List (Nat × Nat), Good n ds ∧ δ = [some (.S, .bag), some (.S, .int 6), some (.S, .int (n : Int)), some (.S, namesD n), some (.D, .lst (ds.map cplD)), none, none, none, none]) ?_ ?_
  · obtain ⟨v, B4, h1, h2, hB4⟩ := sp_takeN (k := k) (W := W) h13 (m := 2) (by omega) hB3
    have h1 : callR (callN Pf W (k + 1)) 13 [⟨.bag, .D⟩, ⟨.int 2, .D⟩] B3 = .ok ⟨.int (v : Int), .D⟩ B4 := h1
    by_cases hv : (v : Int) = 0
    · have tr := draw_tree (Pf := Pf) (W := W) (k := k) (i := 2) (j := 6) (b := 0) (δ := [some (.S, .bag), some (.S, .int 6), some (.S, .int (n : Int)), some (.S, namesD n), some (.D, .lst (l.map cplD)), none, none, none, none]) h13 ⟨n1, n6⟩ hB4 rfl (fun _ => rfl) (fun _ => rfl)
      obtain ⟨r, B5, e1, hB5, t, t1, t2, rfl⟩ := tr
      obtain ⟨ds, e2, d1, d2, d3⟩ := sset_cpl (l := l ++ t) (n := n) (f := .D) (by rw [List.length_append]; omega) (fun q hq => (List.mem_append.mp hq).elim (s1 q) (t1 q)) (by omega)
      refine .of (δ := [some (.S, .bag), some (.S, .int 6), some (.S, .int (n : Int)), some (.S, namesD n), some (.D, .lst (ds.map cplD)), none, none, none, none]) (B := B5) ?_ ⟨hB5, ds, ⟨n1, by omega, d1, d2, d3⟩, rfl⟩
      simp only [exL_nil, exL_cons, exS, evq_v, evq_k, evq_gc, evq_tup, evq_lst, evq_o2, evq_ch, evq_neg, evq_nt, evq_an, evq_or, evq_ife, evq_ix, evq_sl, evq_call, evq_bi, evq_isi, evq_me, evq_bg, evq_heard, evL, evO, evS, evG, evC, evAn, evOr, slot, get_0, get_s, put_0, put_s, wipe_nil, wipe_cons, List.set_cons_zero, List.set_cons_succ, freeze, freeze1, occ, occL, occO, occS, occG, occS2, List.foldl_nil, List.foldl_cons, List.append_nil, List.nil_append, List.cons_append, List.map_cons, List.map_nil, List.replicate_succ, List.replicate_zero, ofRes_ok, ofRes_exc, ok_bind, exc_bind, opt_some, outR_ret, outR_nx, outR_exc, asT_f, asT_t, flat_tup, flat_pr, flat_lst, flat_dct, flat_int, flat_str, flat_bl, flat_non, flat_bag, flatL_nil, flatL_cons, Bool.and_true, Bool.true_and, Bool.and_false, Bool.false_and, if_true, if_false, ite_true, ite_false, Bool.false_eq_true, List.contains_nil, Nat.reduceSub, Nat.reduceAdd, Nat.reduceEqDiff, lent_D, lent_R, lent_S, lent_BR, lent_BD, fU0, fL0, fU1, fL1, fU2, fL2, fU3, fL3, fU4, fL4, fU5, fL5, fU6, fL6, fU7, fL7, fU8, fL8, kids_lst, kids_tup, asgTg, asgL, mdOf, bRes, truth, h1, eq_int, hv, decide_true, cpl_flat, e1, add_cpl (l := l) (r := t) (by omega), e2]
    · exact .of (by simp only [exL_nil, exL_cons, exS, evq_v, evq_k, evq_gc, evq_tup, evq_lst, evq_o2, evq_ch, evq_neg, evq_nt, evq_an, evq_or, evq_ife, evq_ix, evq_sl, evq_call, evq_bi, evq_isi, evq_me, evq_bg, evq_heard, evq_comp, evq_dcomp, evL, evO, evS, evG, evC, evAn, evOr, slot, get_0, get_s, put_0, put_s, wipe_nil, wipe_cons, List.set_cons_zero, List.set_cons_succ, freeze, freeze1, occ, occL, occO, occS, occG, occS2, List.foldl_nil, List.foldl_cons, List.append_nil, List.nil_append, List.cons_append, List.map_cons, List.map_nil, List.replicate_succ, List.replicate_zero, ofRes_ok, ofRes_exc, ok_bind, exc_bind, opt_some, outR_ret, outR_nx, outR_exc, asT_f, asT_t, flat_tup, flat_pr, flat_lst, flat_dct, flat_int, flat_str, flat_bl, flat_non, flat_bag, flatL_nil, flatL_cons, Bool.and_true, Bool.true_and, Bool.and_false, Bool.false_and, if_true, if_false, ite_true, ite_false, Bool.false_eq_true, List.contains_nil, Nat.reduceSub, Nat.reduceAdd, Nat.reduceEqDiff, lent_D, lent_R, lent_S, lent_BR, lent_BD, fU0, fL0, fU1, fL1, fU2, fL2, fU3, fL3, fU4, fL4, fU5, fL5, fU6, fL6, fU7, fL7, fU8, fL8, kids_lst, kids_tup, asgTg, asgL, mdOf, bRes, truth, h1, eq_int, hv, decide_false]) ⟨hB4, l, ⟨n1, by omega, s1, s2, by omega⟩, rfl⟩
  rintro δ B4 ⟨hB4, ds, g, rfl⟩
  refine .of (r := ⟨netD n ds, .D⟩) (B := B4) ?_ ⟨⟨n, ds, g, n6, rfl⟩, rfl, hB4⟩
  simp only [exL_nil, exL_cons, exS, evq_v, evq_k, evq_gc, evq_tup, evq_lst, evq_o2, evq_ch, evq_neg, evq_nt, evq_an, evq_or, evq_ife, evq_ix, evq_sl, evq_call, evq_bi, evq_isi, evq_me, evq_bg, evq_heard, evq_comp, evq_dcomp, evL, evO, evS, evG, evC, evAn, evOr, slot, get_0, get_s, put_0, put_s, wipe_nil, wipe_cons, List.set_cons_zero, List.set_cons_succ, freeze, freeze1, occ, occL, occO, occS, occG, occS2, List.foldl_nil, List.foldl_cons, List.append_nil, List.nil_append, List.cons_append, List.map_cons, List.map_nil, List.replicate_succ, List.replicate_zero, ofRes_ok, ofRes_exc, ok_bind, exc_bind, opt_some, outR_ret, outR_nx, outR_exc, asT_f, asT_t, flat_tup, flat_pr, flat_lst, flat_dct, flat_int, flat_str, flat_bl, flat_non, flat_bag, flatL_nil, flatL_cons, Bool.and_true, Bool.true_and, Bool.and_false, Bool.false_and, if_true, if_false, ite_true, ite_false, Bool.false_eq_true, List.contains_nil, Nat.reduceSub, Nat.reduceAdd, Nat.reduceEqDiff, lent_D, lent_R, lent_S, lent_BR, lent_BD, fU0, fL0, fU1, fL1, fU2, fL2, fU3, fL3, fU4, fL4, fU5, fL5, fU6, fL6, fU7, fL7, fU8, fL8, kids_lst, kids_tup, asgTg, asgL, mdOf, bRes, truth, cpl_flat, namesD_flat, itemsW_lst (cpl_flat ds)]
  rw [comp_D (h := cplD) (g := doorD) (by have := g.len; omega)]
  · simp only [exL_nil, exL_cons, exS, evq_v, evq_k, evq_gc, evq_tup, evq_lst, evq_o2, evq_ch, evq_neg, evq_nt, evq_an, evq_or, evq_ife, evq_ix, evq_sl, evq_call, evq_bi, evq_isi, evq_me, evq_bg, evq_heard, evq_comp, evq_dcomp, evL, evO, evS, evG, evC, evAn, evOr, slot, get_0, get_s, put_0, put_s, wipe_nil, wipe_cons, List.set_cons_zero, List.set_cons_succ, freeze, freeze1, occ, occL, occO, occS, occG, occS2, List.foldl_nil, List.foldl_cons, List.append_nil, List.nil_append, List.cons_append, List.map_cons, List.map_nil, List.replicate_succ, List.replicate_zero, ofRes_ok, ofRes_exc, ok_bind, exc_bind, opt_some, outR_ret, outR_nx, outR_exc, asT_f, asT_t, flat_tup, flat_pr, flat_lst, flat_dct, flat_int, flat_str, flat_bl, flat_non, flat_bag, flatL_nil, flatL_cons, Bool.and_true, Bool.true_and, Bool.and_false, Bool.false_and, if_true, if_false, ite_true, ite_false, Bool.false_eq_true, List.contains_nil, Nat.reduceSub, Nat.reduceAdd, Nat.reduceEqDiff, lent_D, lent_R, lent_S, lent_BR, lent_BD, fU0, fL0, fU1, fL1, fU2, fL2, fU3, fL3, fU4, fL4, fU5, fL5, fU6, fL6, fU7, fL7, fU8, fL8, kids_lst, kids_tup, asgTg, asgL, mdOf, bRes, truth, tuple_flat (doors_flat ds)]
    rfl
  · intro q hq
    obtain ⟨p1, p2⟩ := g.lt q hq
    simp only [exL_nil, exL_cons, exS, evq_v, evq_k, evq_gc, evq_tup, evq_lst, evq_o2, evq_ch, evq_neg, evq_nt, evq_an, evq_or, evq_ife, evq_ix, evq_sl, evq_call, evq_bi, evq_isi, evq_me, evq_bg, evq_heard, evq_comp, evq_dcomp, evL, evO, evS, evG, evC, evAn, evOr, slot, get_0, get_s, put_0, put_s, wipe_nil, wipe_cons, List.set_cons_zero, List.set_cons_succ, freeze, freeze1, occ, occL, occO, occS, occG, occS2, List.foldl_nil, List.foldl_cons, List.append_nil, List.nil_append, List.cons_append, List.map_cons, List.map_nil, List.replicate_succ, List.replicate_zero, ofRes_ok, ofRes_exc, ok_bind, exc_bind, opt_some, outR_ret, outR_nx, outR_exc, asT_f, asT_t, flat_tup, flat_pr, flat_lst, flat_dct, flat_int, flat_str, flat_bl, flat_non, flat_bag, flatL_nil, flatL_cons, Bool.and_true, Bool.true_and, Bool.and_false, Bool.false_and, if_true, if_false, ite_true, ite_false, Bool.false_eq_true, List.contains_nil, Nat.reduceSub, Nat.reduceAdd, Nat.reduceEqDiff, lent_D, lent_R, lent_S, lent_BR, lent_BD, fU0, fL0, fU1, fL1, fU2, fL2, fU3, fL3, fU4, fL4, fU5, fL5, fU6, fL6, fU7, fL7, fU8, fL8, kids_lst, kids_tup, asgTg, asgL, mdOf, bRes, truth, turn, cplD, rowD, row2, namesD_flat, ix_names (f := .D) (Nat.lt_trans p1 p2) g.n8, ix_names (f := .D) p2 g.n8]
    rfl

theorem sp_whole_net (h13 : Pf 13 = some (.py d__law_take)) (h16 : Pf 16 = some (.py d__law_pairs)) (h18 : Pf 18 = some (.py d__law_net_by)) (h20 : Pf 20 = some (.py d__law_whole_net)) (hB : BOk B) : EvTo (callN Pf W (k + 2) 20 [.bag, .int 6] B) fun r B' => IsNet 6 r.d ∧ r.f = .D ∧ BOk B' := by
  refine call_to h20 rfl ?_
  show To (exL _ _ (.cons _ (.cons _ (.cons _ _))) [] [some (.S, .bag), some (.S, .int 6), none, none, none, none] B) _
  refine To.cons (Q := fun δ B => ∃ n : Nat, 1 ≤ n ∧ n ≤ 6 ∧ BOk B ∧ δ = [some (.S, .bag), some (.S, .int 6), some (.S, .int (n : Int)), none, none, none]) ?_ ?_
  · obtain ⟨v, B1, h1, h2, h3⟩ := sp_takeN (k := k) (W := W) h13 (m := 6) (by omega) hB
    have h1 : callR (callN Pf W (k + 1)) 13 [⟨.bag, .D⟩, ⟨.int 6, .D⟩] B = .ok ⟨.int (v : Int), .D⟩ B1 := h1
    have e : (1 : Int) + (v : Int) = ((v + 1 : Nat) : Int) := by omega
    exact .of (by simp only [exL_nil, exL_cons, exS, evq_v, evq_k, evq_gc, evq_tup, evq_lst, evq_o2, evq_ch, evq_neg, evq_nt, evq_an, evq_or, evq_ife, evq_ix, evq_sl, evq_call, evq_bi, evq_isi, evq_me, evq_bg, evq_heard, evq_comp, evq_dcomp, evL, evO, evS, evG, evC, evAn, evOr, slot, get_0, get_s, put_0, put_s, wipe_nil, wipe_cons, List.set_cons_zero, List.set_cons_succ, freeze, freeze1, occ, occL, occO, occS, occG, occS2, List.foldl_nil, List.foldl_cons, List.append_nil, List.nil_append, List.cons_append, List.map_cons, List.map_nil, List.replicate_succ, List.replicate_zero, ofRes_ok, ofRes_exc, ok_bind, exc_bind, opt_some, outR_ret, outR_nx, outR_exc, asT_f, asT_t, flat_tup, flat_pr, flat_lst, flat_dct, flat_int, flat_str, flat_bl, flat_non, flat_bag, flatL_nil, flatL_cons, Bool.and_true, Bool.true_and, Bool.and_false, Bool.false_and, if_true, if_false, ite_true, ite_false, Bool.false_eq_true, List.contains_nil, Nat.reduceSub, Nat.reduceAdd, Nat.reduceEqDiff, lent_D, lent_R, lent_S, lent_BR, lent_BD, fU0, fL0, fU1, fL1, fU2, fL2, fU3, fL3, fU4, fL4, fU5, fL5, fU6, fL6, fU7, fL7, fU8, fL8, kids_lst, kids_tup, asgTg, asgL, mdOf, bRes, truth, h1, add_int, e]) ⟨v + 1, by omega, by omega, h3, rfl⟩
  rintro δ B1 ⟨n, n1, n6, hB1, rfl⟩
  refine To.cons (Q := fun δ B => BOk B ∧ ∃ l : List (Nat × Nat), l.Sublist (pairsL n) ∧ δ = [some (.S, .bag), some (.S, .int 6), some (.S, .int (n : Int)), some (.D, .lst (l.map cplD)), none, none]) ?_ ?_
  · refine asg_to rfl (draw_doors (m := 4) (n := n) h13 h16 (by omega) n6 hB1 rfl (fun _ => rfl) (fun _ => rfl)) ?_
    rintro r B3 ⟨hB3, l, hl, rfl⟩
    exact ⟨_, rfl, hB3, l, hl, rfl⟩
  rintro δ B3 ⟨hB3, l, hl, rfl⟩
  obtain ⟨s1, s2, s3⟩ := sub_pairs hl n6
  have tr := draw_tree (Pf := Pf) (W := W) (k := k) (i := 2) (j := 5) (b := 0) (δ := [some (.S, .bag), some (.S, .int 6), some (.S, .int (n : Int)), some (.D, .lst (l.map cplD)), none, none]) h13 ⟨n1, n6⟩ hB3 rfl (fun _ => rfl) (fun _ => rfl)
  obtain ⟨r, B5, e1, hB5, t, t1, t2, rfl⟩ := tr
  obtain ⟨ds, e2, d1, d2, d3⟩ := sset_cpl (l := l ++ t) (n := n) (f := .D) (by rw [List.length_append]; omega) (fun q hq => (List.mem_append.mp hq).elim (s1 q) (t1 q)) (by omega)
  have nb : callR (callN Pf W (k + 1)) 18 [⟨.int (n : Int), .D⟩, ⟨.lst (ds.map cplD), .D⟩] B5 = .ok ⟨netD n ds, .D⟩ B5 := callR_flat (sp_net_by h18 (by omega) (fun q hq => let z := d1 q hq; ⟨Nat.lt_trans z.1 z.2, z.2⟩) (by omega)) netD_flat
  refine .of (r := ⟨netD n ds, .D⟩) (B := B5) ?_ ⟨⟨n, ds, ⟨n1, by omega, d1, d2, d3⟩, n6, rfl⟩, rfl, hB5⟩
  simp only [exL_nil, exL_cons, exS, evq_v, evq_k, evq_gc, evq_tup, evq_lst, evq_o2, evq_ch, evq_neg, evq_nt, evq_an, evq_or, evq_ife, evq_ix, evq_sl, evq_call, evq_bi, evq_isi, evq_me, evq_bg, evq_heard, evL, evO, evS, evG, evC, evAn, evOr, slot, get_0, get_s, put_0, put_s, wipe_nil, wipe_cons, List.set_cons_zero, List.set_cons_succ, freeze, freeze1, occ, occL, occO, occS, occG, occS2, List.foldl_nil, List.foldl_cons, List.append_nil, List.nil_append, List.cons_append, List.map_cons, List.map_nil, List.replicate_succ, List.replicate_zero, ofRes_ok, ofRes_exc, ok_bind, exc_bind, opt_some, outR_ret, outR_nx, outR_exc, asT_f, asT_t, flat_tup, flat_pr, flat_lst, flat_dct, flat_int, flat_str, flat_bl, flat_non, flat_bag, flatL_nil, flatL_cons, Bool.and_true, Bool.true_and, Bool.and_false, Bool.false_and, if_true, if_false, ite_true, ite_false, Bool.false_eq_true, List.contains_nil, Nat.reduceSub, Nat.reduceAdd, Nat.reduceEqDiff, lent_D, lent_R, lent_S, lent_BR, lent_BD, fU0, fL0, fU1, fL1, fU2, fL2, fU3, fL3, fU4, fL4, fU5, fL5, fU6, fL6, fU7, fL7, fU8, fL8, kids_lst, kids_tup, asgTg, asgL, mdOf, bRes, truth, cpl_flat, e1, add_cpl (l := l) (r := t) (by omega), e2, nb]
/-- a ring's couples -/
def ringC (n k : Nat) : Nat × Nat := if k + 1 < n then (k, k + 1) else (0, k)
theorem ring_turn {n k : Nat} (h : k < n) (h3 : 3 ≤ n) (h6 : n ≤ 6) : biF .sorted [⟨.lst [.int (k : Int), .int (((k : Int) + 1).fmod (n : Int))], .D⟩] = some ⟨.lst ((row2 (ringC n k)).map D.int), .D⟩ := by
  have e : (((k : Int) + 1).fmod (n : Int)) = if k + 1 < n then ((k + 1 : Nat) : Int) else 0 := by
    rw [Int.fmod_eq_emod_of_nonneg _ (by omega)]
    split
    · rw [Int.emod_eq_of_lt (by omega) (by omega)]; omega
    · have : (k : Int) + 1 = (n : Int) := by omega
      rw [this, Int.emod_self]
  rw [e]
  have := bi_sort_ints (l := [(k : Int), if k + 1 < n then ((k + 1 : Nat) : Int) else 0]) (f := .D) (by simp)
  refine Eq.trans this ?_
  rw [srt_two]
  unfold ringC
  by_cases q : k + 1 < n
  · rw [if_pos q, if_pos q, if_pos (by omega)]
    rfl
  · rw [if_neg q, if_neg q, if_neg (by omega)]
    rfl
def ringS : Nat → List (Nat × Nat)
  | 3 => [(0, 1), (0, 2), (1, 2)]
  | 4 => [(0, 1), (0, 3), (1, 2), (2, 3)]
  | 5 => [(0, 1), (0, 4), (1, 2), (2, 3), (3, 4)]
  | 6 => [(0, 1), (0, 5), (1, 2), (2, 3), (3, 4), (4, 5)]
  | _ => []
theorem ring_ok {n : Nat} (h3 : 3 ≤ n) (h6 : n ≤ 6) : (∀ q ∈ ringS n, q.1 < q.2 ∧ q.2 < n) ∧ ((ringS n).map row2).Pairwise (· < ·) ∧ ((ringS n).map row2).Perm (((List.range n).map (ringC n)).map row2) ∧ (ringS n).length ≤ 6 := by
  match n, h3, h6 with
  | 3, _, _ => exact ⟨by decide, by decide, by decide, by decide⟩
  | 4, _, _ => exact ⟨by decide, by decide, by decide, by decide⟩
  | 5, _, _ => exact ⟨by decide, by decide, by decide, by decide⟩
  | 6, _, _ => exact ⟨by decide, by decide, by decide, by decide⟩
def knownA : List (Nat × Nat) := [(0, 1), (0, 3), (1, 2), (1, 4), (2, 5), (3, 4), (4, 5)]
def knownB : List (Nat × Nat) := [(0, 1), (0, 3), (0, 4), (1, 2), (1, 4), (2, 3), (2, 4), (3, 4)]
theorem sp_known_net (h13 : Pf 13 = some (.py d__law_take)) (h16 : Pf 16 = some (.py d__law_pairs)) (h17 : Pf 17 = some (.py d__law_net)) (h18 : Pf 18 = some (.py d__law_net_by)) (h20 : Pf 20 = some (.py d__law_whole_net)) (h21 : Pf 21 = some (.py d__law_known_net)) (hB : BOk B) :
    EvTo (callN Pf W (k + 3) 21 [.bag] B) fun r B' => IsNet 6 r.d ∧ r.f = .D ∧ BOk B' := by
  refine call_to h21 rfl ?_
  show To (exL _ _ (.cons _ (.cons _ (.cons _ (.cons _ (.cons _ _))))) [] [some (.S, .bag), none, none, none] B) _
  obtain ⟨v, B1, h1, h2, hB1⟩ := sp_takeN (k := k + 1) (W := W) h13 (m := 7) (by omega) hB
  have h1 : callR (callN Pf W (k + 2)) 13 [⟨.bag, .D⟩, ⟨.int 7, .D⟩] B = .ok ⟨.int (v : Int), .D⟩ B1 := h1
  refine To.cons (Q := fun δ B => B = B1 ∧ δ = [some (.S, .bag), some (.S, .int (v : Int)), none, none]) ?_ ?_
  · exact .of (by simp only [exL_nil, exL_cons, exS, evq_v, evq_k, evq_gc, evq_tup, evq_lst, evq_o2, evq_ch, evq_neg, evq_nt, evq_an, evq_or, evq_ife, evq_ix, evq_sl, evq_call, evq_bi, evq_isi, evq_me, evq_bg, evq_heard, evq_comp, evq_dcomp, evL, evO, evS, evG, evC, evAn, evOr, slot, get_0, get_s, put_0, put_s, wipe_nil, wipe_cons, List.set_cons_zero, List.set_cons_succ, freeze, freeze1, occ, occL, occO, occS, occG, occS2, List.foldl_nil, List.foldl_cons, List.append_nil, List.nil_append, List.cons_append, List.map_cons, List.map_nil, List.replicate_succ, List.replicate_zero, ofRes_ok, ofRes_exc, ok_bind, exc_bind, opt_some, outR_ret, outR_nx, outR_exc, asT_f, asT_t, flat_tup, flat_pr, flat_lst, flat_dct, flat_int, flat_str, flat_bl, flat_non, flat_bag, flatL_nil, flatL_cons, Bool.and_true, Bool.true_and, Bool.and_false, Bool.false_and, if_true, if_false, ite_true, ite_false, Bool.false_eq_true, List.contains_nil, Nat.reduceSub, Nat.reduceAdd, Nat.reduceEqDiff, lent_D, lent_R, lent_S, lent_BR, lent_BD, fU0, fL0, fU1, fL1, fU2, fL2, fU3, fL3, fU4, fL4, fU5, fL5, fU6, fL6, fU7, fL7, fU8, fL8, kids_lst, kids_tup, asgTg, asgL, mdOf, bRes, truth, h1]) ⟨rfl, rfl⟩
  rintro δ B2 ⟨rfl, rfl⟩
  by_cases v0 : (v : Int) = 0
  · obtain ⟨u, B3, g1, g2, hB3⟩ := sp_takeN (k := k + 1) (W := W) h13 (m := 4) (by omega) hB1
    have g1 : callR (callN Pf W (k + 2)) 13 [⟨.bag, .D⟩, ⟨.int 4, .D⟩] B2 = .ok ⟨.int (u : Int), .D⟩ B3 := g1
    have e : (3 : Int) + (u : Int) = ((u + 3 : Nat) : Int) := by omega
    obtain ⟨n, hn⟩ : ∃ n, u + 3 = n := ⟨_, rfl⟩
    rw [hn] at e
    obtain ⟨r1, r2, r3, r4⟩ := ring_ok (n := n) (by omega) (by omega)
    have nb : callR (callN Pf W (k + 2)) 18 [⟨.int (n : Int), .D⟩, ⟨.lst ((ringS n).map cplD), .D⟩] B3 = .ok ⟨netD n (ringS n), .D⟩ B3 := callR_flat (sp_net_by h18 (by omega) (fun q hq => let z := r1 q hq; ⟨Nat.lt_trans z.1 z.2, z.2⟩) (by omega)) netD_flat
    have rg : rngF [⟨.int (n : Int), .D⟩] = some ((List.range n).map fun (k : Nat) => D.int (0 + (k : Int))) := by
      show (if -1000000 ≤ (n : Int) ∧ (n : Int) ≤ 1000000 then some (rangeL 0 (n : Int).toNat) else none) = _
      rw [if_pos (by omega)]
      rfl
    have so : biF .sorted [⟨.lst ((List.range n).map fun k => cplD (ringC n k)), .D⟩] = some ⟨.lst ((ringS n).map cplD), .D⟩ := by
      have := bi_sort_perm (l := ((List.range n).map (ringC n)).map row2) (l' := (ringS n).map row2) (f := .D) (by simp; omega) (fun r hr => by obtain ⟨q, _, rfl⟩ := List.mem_map.mp hr; simp [row2]) r2 r3
      rw [List.map_map, List.map_map, List.map_map] at this
      exact this
    refine .of (r := ⟨netD n (ringS n), .D⟩) (B := B3) ?_ ⟨⟨n, ringS n, ⟨by omega, by omega, r1, r2, by omega⟩, by omega, rfl⟩, rfl, hB3⟩
    simp only [exL_nil, exL_cons, exS, evq_v, evq_k, evq_gc, evq_tup, evq_lst, evq_o2, evq_ch, evq_neg, evq_nt, evq_an, evq_or, evq_ife, evq_ix, evq_sl, evq_call, evq_bi, evq_isi, evq_me, evq_bg, evq_heard, evq_comp, evq_dcomp, evL, evO, evS, evG, evC, evAn, evOr, slot, get_0, get_s, put_0, put_s, wipe_nil, wipe_cons, List.set_cons_zero, List.set_cons_succ, freeze, freeze1, occ, occL, occO, occS, occG, occS2, List.foldl_nil, List.foldl_cons, List.append_nil, List.nil_append, List.cons_append, List.map_cons, List.map_nil, List.replicate_succ, List.replicate_zero, ofRes_ok, ofRes_exc, ok_bind, exc_bind, opt_some, outR_ret, outR_nx, outR_exc, asT_f, asT_t, flat_tup, flat_pr, flat_lst, flat_dct, flat_int, flat_str, flat_bl, flat_non, flat_bag, flatL_nil, flatL_cons, Bool.and_true, Bool.true_and, Bool.and_false, Bool.false_and, if_true, if_false, ite_true, ite_false, Bool.false_eq_true, List.contains_nil, Nat.reduceSub, Nat.reduceAdd, Nat.reduceEqDiff, lent_D, lent_R, lent_S, lent_BR, lent_BD, fU0, fL0, fU1, fL1, fU2, fL2, fU3, fL3, fU4, fL4, fU5, fL5, fU6, fL6, fU7, fL7, fU8, fL8, kids_lst, kids_tup, asgTg, asgL, mdOf, bRes, truth, eq_int, v0, decide_true, g1, add_int, e, rg]
    rw [comp_D (g := fun k => cplD (ringC n k)) (by simp; omega)]
    · simp only [exL_nil, exL_cons, exS, evq_v, evq_k, evq_gc, evq_tup, evq_lst, evq_o2, evq_ch, evq_neg, evq_nt, evq_an, evq_or, evq_ife, evq_ix, evq_sl, evq_call, evq_bi, evq_isi, evq_me, evq_bg, evq_heard, evq_comp, evq_dcomp, evL, evO, evS, evG, evC, evAn, evOr, slot, get_0, get_s, put_0, put_s, wipe_nil, wipe_cons, List.set_cons_zero, List.set_cons_succ, freeze, freeze1, occ, occL, occO, occS, occG, occS2, List.foldl_nil, List.foldl_cons, List.append_nil, List.nil_append, List.cons_append, List.map_cons, List.map_nil, List.replicate_succ, List.replicate_zero, ofRes_ok, ofRes_exc, ok_bind, exc_bind, opt_some, outR_ret, outR_nx, outR_exc, asT_f, asT_t, flat_tup, flat_pr, flat_lst, flat_dct, flat_int, flat_str, flat_bl, flat_non, flat_bag, flatL_nil, flatL_cons, Bool.and_true, Bool.true_and, Bool.and_false, Bool.false_and, if_true, if_false, ite_true, ite_false, Bool.false_eq_true, List.contains_nil, Nat.reduceSub, Nat.reduceAdd, Nat.reduceEqDiff, lent_D, lent_R, lent_S, lent_BR, lent_BD, fU0, fL0, fU1, fL1, fU2, fL2, fU3, fL3, fU4, fL4, fU5, fL5, fU6, fL6, fU7, fL7, fU8, fL8, kids_lst, kids_tup, asgTg, asgL, mdOf, bRes, truth, so, nb]
    · intro q hq
      have hq := List.mem_range.mp hq
      have z : (0 : Int) + (q : Int) = (q : Int) := by omega
      have m : o2F .mod ⟨.int ((q : Int) + 1), .D⟩ ⟨.int (n : Int), .D⟩ = _ := mod_int (by omega)
      simp only [exL_nil, exL_cons, exS, evq_v, evq_k, evq_gc, evq_tup, evq_lst, evq_o2, evq_ch, evq_neg, evq_nt, evq_an, evq_or, evq_ife, evq_ix, evq_sl, evq_call, evq_bi, evq_isi, evq_me, evq_bg, evq_heard, evq_comp, evq_dcomp, evL, evO, evS, evG, evC, evAn, evOr, slot, get_0, get_s, put_0, put_s, wipe_nil, wipe_cons, List.set_cons_zero, List.set_cons_succ, freeze, freeze1, occ, occL, occO, occS, occG, occS2, List.foldl_nil, List.foldl_cons, List.append_nil, List.nil_append, List.cons_append, List.map_cons, List.map_nil, List.replicate_succ, List.replicate_zero, ofRes_ok, ofRes_exc, ok_bind, exc_bind, opt_some, outR_ret, outR_nx, outR_exc, asT_f, asT_t, flat_tup, flat_pr, flat_lst, flat_dct, flat_int, flat_str, flat_bl, flat_non, flat_bag, flatL_nil, flatL_cons, Bool.and_true, Bool.true_and, Bool.and_false, Bool.false_and, if_true, if_false, ite_true, ite_false, Bool.false_eq_true, List.contains_nil, Nat.reduceSub, Nat.reduceAdd, Nat.reduceEqDiff, lent_D, lent_R, lent_S, lent_BR, lent_BD, fU0, fL0, fU1, fL1, fU2, fL2, fU3, fL3, fU4, fL4, fU5, fL5, fU6, fL6, fU7, fL7, fU8, fL8, kids_lst, kids_tup, asgTg, asgL, mdOf, bRes, truth, turn, z, add_int, m, ring_turn hq (by omega) (by omega), tuple_flat (intsFlat _)]
      rfl
  · by_cases v1 : (v : Int) = 1
    · have nb : callR (callN Pf W (k + 2)) 18 [⟨.int 6, .D⟩, ⟨.lst [.tup [.int 0, .int 1], .tup [.int 0, .int 3], .tup [.int 1, .int 2], .tup [.int 1, .int 4], .tup [.int 2, .int 5], .tup [.int 3, .int 4], .tup [.int 4, .int 5]], .D⟩] B2 = .ok ⟨netD 6 knownA, .D⟩ B2 :=
        callR_flat (sp_net_by (n := 6) (ds := knownA) h18 (by decide) (by decide) (by decide)) netD_flat
      refine .of (r := ⟨netD 6 knownA, .D⟩) (B := B2) ?_ ⟨⟨6, knownA, ⟨by decide, by decide, by decide, by decide, by decide⟩, by omega, rfl⟩, rfl, hB1⟩
      simp only [exL_nil, exL_cons, exS, evq_v, evq_k, evq_gc, evq_tup, evq_lst, evq_o2, evq_ch, evq_neg, evq_nt, evq_an, evq_or, evq_ife, evq_ix, evq_sl, evq_call, evq_bi, evq_isi, evq_me, evq_bg, evq_heard, evq_comp, evq_dcomp, evL, evO, evS, evG, evC, evAn, evOr, slot, get_0, get_s, put_0, put_s, wipe_nil, wipe_cons, List.set_cons_zero, List.set_cons_succ, freeze, freeze1, occ, occL, occO, occS, occG, occS2, List.foldl_nil, List.foldl_cons, List.append_nil, List.nil_append, List.cons_append, List.map_cons, List.map_nil, List.replicate_succ, List.replicate_zero, ofRes_ok, ofRes_exc, ok_bind, exc_bind, opt_some, outR_ret, outR_nx, outR_exc, asT_f, asT_t, flat_tup, flat_pr, flat_lst, flat_dct, flat_int, flat_str, flat_bl, flat_non, flat_bag, flatL_nil, flatL_cons, Bool.and_true, Bool.true_and, Bool.and_false, Bool.false_and, if_true, if_false, ite_true, ite_false, Bool.false_eq_true, List.contains_nil, Nat.reduceSub, Nat.reduceAdd, Nat.reduceEqDiff, lent_D, lent_R, lent_S, lent_BR, lent_BD, fU0, fL0, fU1, fL1, fU2, fL2, fU3, fL3, fU4, fL4, fU5, fL5, fU6, fL6, fU7, fL7, fU8, fL8, kids_lst, kids_tup, asgTg, asgL, mdOf, bRes, truth, eq_int, v1, show decide ((1 : Int) = 0) = false from rfl, decide_true, nb]
    · by_cases v2 : (v : Int) = 2
      · have nb : callR (callN Pf W (k + 2)) 18 [⟨.int 5, .D⟩, ⟨.lst [.tup [.int 0, .int 1], .tup [.int 0, .int 3], .tup [.int 0, .int 4], .tup [.int 1, .int 2], .tup [.int 1, .int 4], .tup [.int 2, .int 3], .tup [.int 2, .int 4], .tup [.int 3, .int 4]], .D⟩] B2 = .ok ⟨netD 5 knownB, .D⟩ B2 :=
          callR_flat (sp_net_by (n := 5) (ds := knownB) h18 (by decide) (by decide) (by decide)) netD_flat
        refine .of (r := ⟨netD 5 knownB, .D⟩) (B := B2) ?_ ⟨⟨5, knownB, ⟨by decide, by decide, by decide, by decide, by decide⟩, by omega, rfl⟩, rfl, hB1⟩
        simp only [exL_nil, exL_cons, exS, evq_v, evq_k, evq_gc, evq_tup, evq_lst, evq_o2, evq_ch, evq_neg, evq_nt, evq_an, evq_or, evq_ife, evq_ix, evq_sl, evq_call, evq_bi, evq_isi, evq_me, evq_bg, evq_heard, evq_comp, evq_dcomp, evL, evO, evS, evG, evC, evAn, evOr, slot, get_0, get_s, put_0, put_s, wipe_nil, wipe_cons, List.set_cons_zero, List.set_cons_succ, freeze, freeze1, occ, occL, occO, occS, occG, occS2, List.foldl_nil, List.foldl_cons, List.append_nil, List.nil_append, List.cons_append, List.map_cons, List.map_nil, List.replicate_succ, List.replicate_zero, ofRes_ok, ofRes_exc, ok_bind, exc_bind, opt_some, outR_ret, outR_nx, outR_exc, asT_f, asT_t, flat_tup, flat_pr, flat_lst, flat_dct, flat_int, flat_str, flat_bl, flat_non, flat_bag, flatL_nil, flatL_cons, Bool.and_true, Bool.true_and, Bool.and_false, Bool.false_and, if_true, if_false, ite_true, ite_false, Bool.false_eq_true, List.contains_nil, Nat.reduceSub, Nat.reduceAdd, Nat.reduceEqDiff, lent_D, lent_R, lent_S, lent_BR, lent_BD, fU0, fL0, fU1, fL1, fU2, fL2, fU3, fL3, fU4, fL4, fU5, fL5, fU6, fL6, fU7, fL7, fU8, fL8, kids_lst, kids_tup, asgTg, asgL, mdOf, bRes, truth, eq_int, v2, show decide ((2 : Int) = 0) = false from rfl, show decide ((2 : Int) = 1) = false from rfl, decide_true, nb]
      · by_cases v5 : (v : Int) < 5
        · obtain ⟨⟨rd, rf⟩, B3, e, hN, hf, hB3⟩ := sp_law_net (k := k) (W := W) h13 h16 h17 hB1
          dsimp only at hN hf
          subst hf
          have fl : rd.flat = true := by obtain ⟨n, ds, _, _, rfl⟩ := hN; exact netD_flat
          have c : callR (callN Pf W (k + 2)) 17 [⟨.bag, .D⟩, ⟨.int 6, .D⟩] B2 = .ok ⟨rd, .D⟩ B3 := callR_D e
          refine .of (r := ⟨rd, .D⟩) (B := B3) ?_ ⟨hN, rfl, hB3⟩
          simp only [exL_nil, exL_cons, exS, evq_v, evq_k, evq_gc, evq_tup, evq_lst, evq_o2, evq_ch, evq_neg, evq_nt, evq_an, evq_or, evq_ife, evq_ix, evq_sl, evq_call, evq_bi, evq_isi, evq_me, evq_bg, evq_heard, evq_comp, evq_dcomp, evL, evO, evS, evG, evC, evAn, evOr, slot, get_0, get_s, put_0, put_s, wipe_nil, wipe_cons, List.set_cons_zero, List.set_cons_succ, freeze, freeze1, occ, occL, occO, occS, occG, occS2, List.foldl_nil, List.foldl_cons, List.append_nil, List.nil_append, List.cons_append, List.map_cons, List.map_nil, List.replicate_succ, List.replicate_zero, ofRes_ok, ofRes_exc, ok_bind, exc_bind, opt_some, outR_ret, outR_nx, outR_exc, asT_f, asT_t, flat_tup, flat_pr, flat_lst, flat_dct, flat_int, flat_str, flat_bl, flat_non, flat_bag, flatL_nil, flatL_cons, Bool.and_true, Bool.true_and, Bool.and_false, Bool.false_and, if_true, if_false, ite_true, ite_false, Bool.false_eq_true, List.contains_nil, Nat.reduceSub, Nat.reduceAdd, Nat.reduceEqDiff, lent_D, lent_R, lent_S, lent_BR, lent_BD, fU0, fL0, fU1, fL1, fU2, fL2, fU3, fL3, fU4, fL4, fU5, fL5, fU6, fL6, fU7, fL7, fU8, fL8, kids_lst, kids_tup, asgTg, asgL, mdOf, bRes, truth, eq_int, lt_int, v0, v1, v2, v5, decide_true, decide_false, c]
        · obtain ⟨⟨rd, rf⟩, B3, e, hN, hf, hB3⟩ := sp_whole_net (k := k) (W := W) h13 h16 h18 h20 hB1
          dsimp only at hN hf
          subst hf
          have c : callR (callN Pf W (k + 2)) 20 [⟨.bag, .D⟩, ⟨.int 6, .D⟩] B2 = .ok ⟨rd, .D⟩ B3 := callR_D e
          refine .of (r := ⟨rd, .D⟩) (B := B3) ?_ ⟨hN, rfl, hB3⟩
          simp only [exL_nil, exL_cons, exS, evq_v, evq_k, evq_gc, evq_tup, evq_lst, evq_o2, evq_ch, evq_neg, evq_nt, evq_an, evq_or, evq_ife, evq_ix, evq_sl, evq_call, evq_bi, evq_isi, evq_me, evq_bg, evq_heard, evq_comp, evq_dcomp, evL, evO, evS, evG, evC, evAn, evOr, slot, get_0, get_s, put_0, put_s, wipe_nil, wipe_cons, List.set_cons_zero, List.set_cons_succ, freeze, freeze1, occ, occL, occO, occS, occG, occS2, List.foldl_nil, List.foldl_cons, List.append_nil, List.nil_append, List.cons_append, List.map_cons, List.map_nil, List.replicate_succ, List.replicate_zero, ofRes_ok, ofRes_exc, ok_bind, exc_bind, opt_some, outR_ret, outR_nx, outR_exc, asT_f, asT_t, flat_tup, flat_pr, flat_lst, flat_dct, flat_int, flat_str, flat_bl, flat_non, flat_bag, flatL_nil, flatL_cons, Bool.and_true, Bool.true_and, Bool.and_false, Bool.false_and, if_true, if_false, ite_true, ite_false, Bool.false_eq_true, List.contains_nil, Nat.reduceSub, Nat.reduceAdd, Nat.reduceEqDiff, lent_D, lent_R, lent_S, lent_BR, lent_BD, fU0, fL0, fU1, fL1, fU2, fL2, fU3, fL3, fU4, fL4, fU5, fL5, fU6, fL6, fU7, fL7, fU8, fL8, kids_lst, kids_tup, asgTg, asgL, mdOf, bRes, truth, eq_int, lt_int, v0, v1, v2, v5, decide_true, decide_false, c]
end
end Wh

set_option maxHeartbeats 4000000
/-! Wh, plain part: words of nets. -/
namespace Wh
open PySem
section
variable {Pf : Nat → Option Fn} {C : Cs} {W k : Nat} {B : Bag} {n : Nat} {ds : List (Nat × Nat)}
theorem sp_is_name (h : Pf 2 = some (.py d_is_name)) {a : Nat} (ha : a < 8) : callN Pf W (k + 1) 2 [.str (nm a)] B = .ok ⟨.bl true, .D⟩ B := by
  rw [callN_py h rfl]
  match a, ha with
  | 0, _ => kernel_rfl
  | 1, _ => kernel_rfl
  | 2, _ => kernel_rfl
  | 3, _ => kernel_rfl
  | 4, _ => kernel_rfl
  | 5, _ => kernel_rfl
  | 6, _ => kernel_rfl
  | 7, _ => kernel_rfl
theorem sp_is_name_zz (h : Pf 2 = some (.py d_is_name)) : callN Pf W (k + 1) 2 [.str (Str.ofString "zz")] B = .ok ⟨.bl true, .D⟩ B := by
  rw [callN_py h rfl]
  kernel_rfl
theorem sp_is_name_A (h : Pf 2 = some (.py d_is_name)) : callN Pf W (k + 1) 2 [.str (Str.ofString "A")] B = .ok ⟨.bl false, .D⟩ B := by
  rw [callN_py h rfl]
  kernel_rfl
theorem sp_is_name_non (h : Pf 2 = some (.py d_is_name)) : callN Pf W (k + 1) 2 [.non] B = .ok ⟨.bl false, .D⟩ B := by
  rw [callN_py h rfl]
  kernel_rfl
theorem sp_is_name_int (h : Pf 2 = some (.py d_is_name)) {i : Int} : callN Pf W (k + 1) 2 [.int i] B = .ok ⟨.bl false, .D⟩ B := by
  rw [callN_py h rfl]
  kernel_rfl

theorem sp_many_halls (h : Pf 3 = some (.py d_many_halls)) (hn : n ≤ 8) : callN Pf W (k + 1) 3 [netD n ds] B = .ok ⟨.int n, .D⟩ B := by
  rw [callN_py h rfl]
  simp only [exL_nil, exL_cons, exS, evq_v, evq_k, evq_gc, evq_tup, evq_lst, evq_o2, evq_ch, evq_neg, evq_nt, evq_an, evq_or, evq_ife, evq_ix, evq_sl, evq_call, evq_bi, evq_isi, evq_me, evq_bg, evq_heard, evq_comp, evq_dcomp, evL, evO, evS, evG, evC, evAn, evOr, slot, get_0, get_s, put_0, put_s, wipe_nil, wipe_cons, List.set_cons_zero, List.set_cons_succ, freeze, freeze1, occ, occL, occO, occS, occG, occS2, List.foldl_nil, List.foldl_cons, List.append_nil, List.nil_append, List.cons_append, List.map_cons, List.map_nil, List.replicate_succ, List.replicate_zero, ofRes_ok, ofRes_exc, ok_bind, exc_bind, opt_some, outR_ret, outR_nx, outR_exc, asT_f, asT_t, flat_tup, flat_pr, flat_lst, flat_dct, flat_int, flat_str, flat_bl, flat_non, flat_bag, flatL_nil, flatL_cons, Bool.and_true, Bool.true_and, Bool.and_false, Bool.false_and, if_true, if_false, ite_true, ite_false, Bool.false_eq_true, List.contains_nil, Nat.reduceSub, Nat.reduceAdd, Nat.reduceEqDiff, lent_D, lent_R, lent_S, lent_BR, lent_BD, fU0, fL0, fU1, fL1, fU2, fL2, fU3, fL3, fU4, fL4, fU5, fL5, fU6, fL6, fU7, fL7, fU8, fL8, kids_lst, kids_tup, asgTg, asgL, mdOf, bRes, truth, d_many_halls, netD_flat, ix_net0, len_names hn]
/-! numbers of halls -/
def numsD (n : Nat) : D := .dct ((List.range n).map fun i => (.inr (nm i), .int (i : Int)))
theorem dct_nums {x y z u v w : Option (Md × D)} (hn : n ≤ 8) : ((cap (compGo (dturn C [2, 3] (.v 3) (.v 2) (.tup [2, 3]) .nil [x, y, z, u, v, w]) (enumL ((NM.take n).map D.str)) B)).bind fun l B => (opt (dctOf l []) B).bind fun r B => Res.ok (RV.mk (.dct r) .D) B) = Res.ok (RV.mk (numsD n) .D) B := by
  match n, hn with
  | 0, _ => kernel_rfl
  | 1, _ => kernel_rfl
  | 2, _ => kernel_rfl
  | 3, _ => kernel_rfl
  | 4, _ => kernel_rfl
  | 5, _ => kernel_rfl
  | 6, _ => kernel_rfl
  | 7, _ => kernel_rfl
  | 8, _ => kernel_rfl
def isI (o : Option D) (a : Nat) : Bool := match o with
  | some (.int i) => decide (i = (a : Int))
  | _ => false
theorem isI_ok {o : Option D} {a : Nat} (h : isI o a = true) : o = some (.int (a : Int)) := by
  unfold isI at h
  split at h
  · rw [of_decide_eq_true h]
  · cases h
theorem nums_at : ∀ n : Fin 9, ∀ a : Fin 8, a.val < n.val → isI (dGet ((List.range n.val).map fun i => ((.inr (nm i) : L2.Key), D.int (i : Int))) (.inr (nm a.val))) a.val = true := by decide +kernel
theorem ix_nums {a : Nat} {f : Fl} (ha : a < n) (hn : n ≤ 8) : ixF ⟨numsD n, f⟩ ⟨.str (nm a), .D⟩ = some ⟨.int (a : Int), .D⟩ := by
  have := isI_ok (nums_at ⟨n, by omega⟩ ⟨a, by omega⟩ ha)
  show (match dGet ((List.range n).map fun i => ((.inr (nm i) : L2.Key), D.int (i : Int))) (.inr (nm a)) with | some d => plain d | none => none) = _
  rw [this]
  rfl
theorem enum_names {f : Fl} : enumF ⟨namesD n, f⟩ = some (enumL ((NM.take n).map D.str)) := by
  show (match itemsR ⟨.tup ((NM.take n).map D.str), f⟩ with | some l => some (enumL l) | none => none) = _
  have : itemsR ⟨.tup ((NM.take n).map D.str), f⟩ = some ((NM.take n).map D.str) := if_pos (strs_flat _)
  rw [this]
theorem itemsW_doors {f : Fl} : itemsW ⟨doorsD ds, f⟩ = some (ds.map doorD) := itemsW_tup (doors_flat ds)
theorem nums_flat : D.flat (numsD n) = false := rfl
theorem nums_kids : kidsFlat (numsD n) = false := rfl
theorem sp_doors (h : Pf 7 = some (.py d_doors_by_number)) (g : Good n ds) : callN Pf W (k + 1) 7 [netD n ds] B = .ok ⟨.tup (ds.map cplD), .D⟩ B := by
  rw [callN_py h rfl]
  simp only [exL_nil, exL_cons, exS, evq_v, evq_k, evq_gc, evq_tup, evq_lst, evq_o2, evq_ch, evq_neg, evq_nt, evq_an, evq_or, evq_ife, evq_ix, evq_sl, evq_call, evq_bi, evq_isi, evq_me, evq_bg, evq_heard, evq_comp, evq_dcomp, evL, evO, evS, evG, evC, evAn, evOr, slot, get_0, get_s, put_0, put_s, wipe_nil, wipe_cons, List.set_cons_zero, List.set_cons_succ, freeze, freeze1, occ, occL, occO, occS, occG, occS2, List.foldl_nil, List.foldl_cons, List.append_nil, List.nil_append, List.cons_append, List.map_cons, List.map_nil, List.replicate_succ, List.replicate_zero, ofRes_ok, ofRes_exc, ok_bind, exc_bind, opt_some, outR_ret, outR_nx, outR_exc, asT_f, asT_t, flat_tup, flat_pr, flat_lst, flat_dct, flat_int, flat_str, flat_bl, flat_non, flat_bag, flatL_nil, flatL_cons, Bool.and_true, Bool.true_and, Bool.and_false, Bool.false_and, if_true, if_false, ite_true, ite_false, Bool.false_eq_true, List.contains_nil, Nat.reduceSub, Nat.reduceAdd, Nat.reduceEqDiff, lent_D, lent_R, lent_S, lent_BR, lent_BD, fU0, fL0, fU1, fL1, fU2, fL2, fU3, fL3, fU4, fL4, fU5, fL5, fU6, fL6, fU7, fL7, fU8, fL8, kids_lst, kids_tup, asgTg, asgL, mdOf, bRes, truth, d_doors_by_number, netD_flat, ix_net0, enum_names, dct_nums g.n8]
  simp only [exL_nil, exL_cons, exS, evq_v, evq_k, evq_gc, evq_tup, evq_lst, evq_o2, evq_ch, evq_neg, evq_nt, evq_an, evq_or, evq_ife, evq_ix, evq_sl, evq_call, evq_bi, evq_isi, evq_me, evq_bg, evq_heard, evq_comp, evq_dcomp, evL, evO, evS, evG, evC, evAn, evOr, slot, get_0, get_s, put_0, put_s, wipe_nil, wipe_cons, List.set_cons_zero, List.set_cons_succ, freeze, freeze1, occ, occL, occO, occS, occG, occS2, List.foldl_nil, List.foldl_cons, List.append_nil, List.nil_append, List.cons_append, List.map_cons, List.map_nil, List.replicate_succ, List.replicate_zero, ofRes_ok, ofRes_exc, ok_bind, exc_bind, opt_some, outR_ret, outR_nx, outR_exc, asT_f, asT_t, flat_tup, flat_pr, flat_lst, flat_dct, flat_int, flat_str, flat_bl, flat_non, flat_bag, flatL_nil, flatL_cons, Bool.and_true, Bool.true_and, Bool.and_false, Bool.false_and, if_true, if_false, ite_true, ite_false, Bool.false_eq_true, List.contains_nil, Nat.reduceSub, Nat.reduceAdd, Nat.reduceEqDiff, lent_D, lent_R, lent_S, lent_BR, lent_BD, fU0, fL0, fU1, fL1, fU2, fL2, fU3, fL3, fU4, fL4, fU5, fL5, fU6, fL6, fU7, fL7, fU8, fL8, kids_lst, kids_tup, asgTg, asgL, mdOf, bRes, truth, nums_flat, nums_kids, netD_flat, ix_net1, itemsW_doors]
  rw [comp_D (h := doorD) (g := cplD) (by have := g.len; omega)]
  · simp only [exL_nil, exL_cons, exS, evq_v, evq_k, evq_gc, evq_tup, evq_lst, evq_o2, evq_ch, evq_neg, evq_nt, evq_an, evq_or, evq_ife, evq_ix, evq_sl, evq_call, evq_bi, evq_isi, evq_me, evq_bg, evq_heard, evq_comp, evq_dcomp, evL, evO, evS, evG, evC, evAn, evOr, slot, get_0, get_s, put_0, put_s, wipe_nil, wipe_cons, List.set_cons_zero, List.set_cons_succ, freeze, freeze1, occ, occL, occO, occS, occG, occS2, List.foldl_nil, List.foldl_cons, List.append_nil, List.nil_append, List.cons_append, List.map_cons, List.map_nil, List.replicate_succ, List.replicate_zero, ofRes_ok, ofRes_exc, ok_bind, exc_bind, opt_some, outR_ret, outR_nx, outR_exc, asT_f, asT_t, flat_tup, flat_pr, flat_lst, flat_dct, flat_int, flat_str, flat_bl, flat_non, flat_bag, flatL_nil, flatL_cons, Bool.and_true, Bool.true_and, Bool.and_false, Bool.false_and, if_true, if_false, ite_true, ite_false, Bool.false_eq_true, List.contains_nil, Nat.reduceSub, Nat.reduceAdd, Nat.reduceEqDiff, lent_D, lent_R, lent_S, lent_BR, lent_BD, fU0, fL0, fU1, fL1, fU2, fL2, fU3, fL3, fU4, fL4, fU5, fL5, fU6, fL6, fU7, fL7, fU8, fL8, kids_lst, kids_tup, asgTg, asgL, mdOf, bRes, truth, tuple_flat (cpl_flat ds)]
  · intro q hq
    obtain ⟨p1, p2⟩ := g.lt q hq
    simp only [exL_nil, exL_cons, exS, evq_v, evq_k, evq_gc, evq_tup, evq_lst, evq_o2, evq_ch, evq_neg, evq_nt, evq_an, evq_or, evq_ife, evq_ix, evq_sl, evq_call, evq_bi, evq_isi, evq_me, evq_bg, evq_heard, evq_comp, evq_dcomp, evL, evO, evS, evG, evC, evAn, evOr, slot, get_0, get_s, put_0, put_s, wipe_nil, wipe_cons, List.set_cons_zero, List.set_cons_succ, freeze, freeze1, occ, occL, occO, occS, occG, occS2, List.foldl_nil, List.foldl_cons, List.append_nil, List.nil_append, List.cons_append, List.map_cons, List.map_nil, List.replicate_succ, List.replicate_zero, ofRes_ok, ofRes_exc, ok_bind, exc_bind, opt_some, outR_ret, outR_nx, outR_exc, asT_f, asT_t, flat_tup, flat_pr, flat_lst, flat_dct, flat_int, flat_str, flat_bl, flat_non, flat_bag, flatL_nil, flatL_cons, Bool.and_true, Bool.true_and, Bool.and_false, Bool.false_and, if_true, if_false, ite_true, ite_false, Bool.false_eq_true, List.contains_nil, Nat.reduceSub, Nat.reduceAdd, Nat.reduceEqDiff, lent_D, lent_R, lent_S, lent_BR, lent_BD, fU0, fL0, fU1, fL1, fU2, fL2, fU3, fL3, fU4, fL4, fU5, fL5, fU6, fL6, fU7, fL7, fU8, fL8, kids_lst, kids_tup, asgTg, asgL, mdOf, bRes, truth, turn, doorD, nums_flat, ix_nums (n := n) (f := .S) (Nat.lt_trans p1 p2) g.n8, ix_nums (n := n) (f := .S) p2 g.n8, ix_nums (n := n) (f := .BD) (Nat.lt_trans p1 p2) g.n8, ix_nums (n := n) (f := .BD) p2 g.n8]
    rfl

/-! rows of near halls -/
def intsD (r : List Int) : D := .lst (r.map D.int)
def rowsD (rs : List (List Int)) : List D := rs.map intsD
def addR (rs : List (List Int)) (a : Nat) (x : Int) : List (List Int) := match rs[a]? with
  | some m => rs.set a (m ++ [x])
  | none => rs
def stepR (rs : List (List Int)) (q : Nat × Nat) : List (List Int) := addR (addR rs q.1 (q.2 : Int)) q.2 (q.1 : Int)
def startR (n : Nat) : List (List Int) := (List.range n).map fun (i : Nat) => [(i : Int)]
def nearR (n : Nat) (ds : List (Nat × Nat)) : List (List Int) := ds.foldl stepR (startR n)
/-- n rows, of at most c numbers below m -/
structure Rws (n m c : Nat) (rs : List (List Int)) : Prop where
  len : rs.length = n
  row : ∀ r ∈ rs, r.length ≤ c ∧ ∀ i ∈ r, 0 ≤ i ∧ i < (m : Int)
theorem Rws.add {n m c : Nat} {rs : List (List Int)} (h : Rws n m c rs) {a : Nat} {x : Int} (hx : 0 ≤ x ∧ x < (m : Int)) : Rws n m (c + 1) (addR rs a x) := by
  unfold addR
  split
  · rename_i r q
    refine ⟨by rw [List.length_set]; exact h.len, fun s hs => ?_⟩
    rcases List.mem_or_eq_of_mem_set hs with z | z
    · exact ⟨Nat.le_succ_of_le (h.row s z).1, (h.row s z).2⟩
    · subst z
      have hr := h.row r (List.mem_of_getElem? q)
      refine ⟨by rw [List.length_append]; have := hr.1; simp; omega, fun i hi => ?_⟩
      rcases List.mem_append.mp hi with z | z
      · exact hr.2 i z
      · rw [List.mem_singleton.mp z]; exact hx
  · exact ⟨h.len, fun s hs => ⟨Nat.le_succ_of_le (h.row s hs).1, (h.row s hs).2⟩⟩
theorem near_rws : ∀ {ds : List (Nat × Nat)} {rs : List (List Int)} {n m c : Nat}, Rws n m c rs → (∀ q ∈ ds, q.1 < m ∧ q.2 < m) → Rws n m (c + 2 * ds.length) (ds.foldl stepR rs)
  | [], rs, n, m, c, h, _ => h
  | q :: r, rs, n, m, c, h, hd => by
    obtain ⟨p1, p2⟩ := hd q List.mem_cons_self
    have h2 := (h.add (a := q.1) (x := (q.2 : Int)) ⟨by omega, by omega⟩).add (a := q.2) (x := (q.1 : Int)) ⟨by omega, by omega⟩
    have := near_rws h2 (fun q hq => hd q (List.mem_cons_of_mem _ hq))
    have e : c + 1 + 1 + 2 * r.length = c + 2 * (q :: r).length := by rw [List.length_cons]; omega
    rw [e] at this
    exact this
theorem start_rws : Rws n n 1 (startR n) := ⟨by unfold startR; rw [List.length_map, List.length_range], fun r hr => by
  obtain ⟨i, hi, rfl⟩ := List.mem_map.mp hr
  have := List.mem_range.mp hi
  exact ⟨Nat.le_refl _, fun j hj => by rw [List.mem_singleton.mp hj]; omega⟩⟩
theorem Good.rws (g : Good n ds) : Rws n n (1 + 2 * ds.length) (nearR n ds) := near_rws start_rws fun q hq => let z := g.lt q hq; ⟨Nat.lt_trans z.1 z.2, z.2⟩
theorem rows_get {rs : List (List Int)} {a : Nat} {r : List Int} (h : rs[a]? = some r) : (rowsD rs)[a]? = some (intsD r) := by
  unfold rowsD
  rw [List.getElem?_map, h]
  rfl
theorem ixN_lt {n a : Nat} (h : a < n) : L2.ixN n (a : Int) = some a := by
  unfold L2.ixN
  rw [if_pos (by omega), if_pos (by omega)]
  rfl
theorem mutP_rows {rs : List (List Int)} {a : Nat} {f : Fl} (h : a < rs.length) : mutP (rowsD rs) [⟨.int (a : Int), f⟩] = true := by
  have e : (rowsD rs)[a]? = some (intsD rs[a]) := rows_get (List.getElem?_eq_getElem h)
  show (match L2.ixN (rowsD rs).length (a : Int) with | some j => (match (rowsD rs)[j]? with | some (.lst _) => true | _ => false) | none => false) = true
  rw [ixN_lt (by unfold rowsD; rw [List.length_map]; exact h)]
  dsimp only
  rw [e]
  rfl
theorem mutF_rows {rs : List (List Int)} {a : Nat} {x : Int} {f g : Fl} (h : a < rs.length) (hc : ∀ r ∈ rs, r.length < 1000000) : mutF .append .D (.lst (rowsD rs)) [⟨.int (a : Int), f⟩] [⟨.int x, g⟩] = some (.D, .lst (rowsD (addR rs a x))) := by
  have e0 := List.getElem?_eq_getElem h
  have e : (rowsD rs)[a]? = some (intsD rs[a]) := rows_get e0
  show (match L2.ixN (rowsD rs).length (a : Int) with
      | some j => (match (rowsD rs)[j]? with
        | some (.lst m) => if m.length < 1000000 ∧ (D.int x).flat then some (Md.D, D.lst ((rowsD rs).set j (D.lst (m ++ [D.int x])))) else none
        | _ => none)
      | none => none) = _
  rw [ixN_lt (by unfold rowsD; rw [List.length_map]; exact h)]
  dsimp only
  rw [e]
  show (if (rs[a].map D.int).length < 1000000 ∧ (D.int x).flat = true then some (Md.D, D.lst ((rowsD rs).set a (D.lst (rs[a].map D.int ++ [D.int x])))) else none) = _
  rw [if_pos ⟨by rw [List.length_map]; exact hc _ (List.getElem_mem h), rfl⟩]
  unfold addR
  rw [e0]
  dsimp only
  unfold rowsD
  rw [List.map_set]
  unfold intsD
  rw [List.map_append]
  rfl
theorem rows_nf {rs : List (List Int)} (h : rs ≠ []) : D.flatL (rowsD rs) = false := by
  cases rs with
  | nil => exact absurd rfl h
  | cons a r => rfl
theorem rows_kids {rs : List (List Int)} (h : rs ≠ []) : kidsFlat (.lst (rowsD rs)) = false := rows_nf h
theorem itemsW_S {l : List D} : itemsW ⟨.lst l, .S⟩ = some l := by
  show (if D.flatL l then some l else some l) = some l
  split <;> rfl
theorem itemsW_D {l : List D} : itemsW ⟨.lst l, .D⟩ = some l := by
  show (if D.flatL l then some l else some l) = some l
  split <;> rfl
theorem rng_n (hn : n ≤ 8) : rngF [⟨.int (n : Int), .D⟩] = some ((List.range n).map fun (k : Nat) => D.int (0 + (k : Int))) := by
  show (if -1000000 ≤ (n : Int) ∧ (n : Int) ≤ 1000000 then some (rangeL 0 (n : Int).toNat) else none) = _
  rw [if_pos (by omega)]
  rfl
theorem intsD_flat (r : List Int) : D.flat (intsD r) = false := rfl
/-- the sorted rows -/
def srtR (n : Nat) (ds : List (Nat × Nat)) : List (List Int) := (nearR n ds).map srt
theorem srt_mem {l : List Int} {i : Int} : i ∈ srt l ↔ i ∈ l := List.mem_mergeSort
theorem srt_len (l : List Int) : (srt l).length = l.length := List.length_mergeSort l
theorem Good.srws (g : Good n ds) : Rws n n (1 + 2 * ds.length) (srtR n ds) := by
  have h := g.rws
  refine ⟨by unfold srtR; rw [List.length_map]; exact h.len, fun r hr => ?_⟩
  obtain ⟨s, hs, rfl⟩ := List.mem_map.mp hr
  exact ⟨by rw [srt_len]; exact (h.row s hs).1, fun i hi => (h.row s hs).2 i (srt_mem.mp hi)⟩
theorem start_map : rowsD (startR n) = (List.range n).map fun (k : Nat) => intsD [(k : Int)] := by
  unfold rowsD startR
  rw [List.map_map]
  rfl
theorem rowDs_flat (rs : List (List Int)) : D.flatL (rs.map rowD) = true := flatL_iff.mpr fun d hd => by
  obtain ⟨i, _, rfl⟩ := List.mem_map.mp hd
  exact rowD_flat i
def stepE (s : List (List Int) × Option (Md × D) × Option (Md × D)) (q : Nat × Nat) : List (List Int) × Option (Md × D) × Option (Md × D) := (stepR s.1 q, some (.S, .int (q.1 : Int)), some (.S, .int (q.2 : Int)))
theorem stepE_fst : ∀ {l : List (Nat × Nat)} {rs : List (List Int)} {x y : Option (Md × D)}, l.foldl stepE (rs, x, y) = (l.foldl stepR rs, (l.foldl stepE (rs, x, y)).2)
  | [], rs, x, y => rfl
  | q :: r, rs, x, y => by
    rw [List.foldl_cons, List.foldl_cons]
    exact stepE_fst
def IvE (n : Nat) (r : List (Nat × Nat)) (s : List (List Int) × Option (Md × D) × Option (Md × D)) : Prop := ∃ c, Rws n n c s.1 ∧ c + 2 * r.length ≤ 200 ∧ ∀ q ∈ r, q.1 < n ∧ q.2 < n
theorem sp_all_near (h7 : Pf 7 = some (.py d_doors_by_number)) (h8 : Pf 8 = some (.py d_all_near)) (g : Good n ds) : callN Pf W (k + 2) 8 [netD n ds] B = .ok ⟨.tup ((srtR n ds).map rowD), .D⟩ B := by
  have hd : callR (callN Pf W (k + 1)) 7 [⟨netD n ds, .D⟩] B = .ok ⟨.tup (ds.map cplD), .D⟩ B := callR_flat (sp_doors h7 g) (cpl_flat ds)
  have hn0 : n ≠ 0 := by have := g.n1; omega
  have s1 : exS (callN Pf W (k + 1)) W (.asg (.n 1) (.comp [2] (.lst (.cons (.v 2) .nil)) (.one (.n 2) (.rng (.cons (.bi .len (.cons (.ix (.v 0) (.k (.int 0))) .nil)) .nil)) .nil))) [] [some (.S, netD n ds), none, none, none, none, none] B = .nx [some (.S, netD n ds), some (.D, .lst (rowsD (startR n))), none, none, none, none] B := by
    simp only [exL_nil, exL_cons, exS, evq_v, evq_k, evq_gc, evq_tup, evq_lst, evq_o2, evq_ch, evq_neg, evq_nt, evq_an, evq_or, evq_ife, evq_ix, evq_sl, evq_call, evq_bi, evq_isi, evq_me, evq_bg, evq_heard, evq_comp, evq_dcomp, evL, evO, evS, evG, evC, evAn, evOr, slot, get_0, get_s, put_0, put_s, wipe_nil, wipe_cons, List.set_cons_zero, List.set_cons_succ, freeze, freeze1, occ, occL, occO, occS, occG, occS2, List.foldl_nil, List.foldl_cons, List.append_nil, List.nil_append, List.cons_append, List.map_cons, List.map_nil, List.replicate_succ, List.replicate_zero, ofRes_ok, ofRes_exc, ok_bind, exc_bind, opt_some, outR_ret, outR_nx, outR_exc, asT_f, asT_t, flat_tup, flat_pr, flat_lst, flat_dct, flat_int, flat_str, flat_bl, flat_non, flat_bag, flatL_nil, flatL_cons, Bool.and_true, Bool.true_and, Bool.and_false, Bool.false_and, if_true, if_false, ite_true, ite_false, Bool.false_eq_true, List.contains_nil, Nat.reduceSub, Nat.reduceAdd, Nat.reduceEqDiff, lent_D, lent_R, lent_S, lent_BR, lent_BD, fU0, fL0, fU1, fL1, fU2, fL2, fU3, fL3, fU4, fL4, fU5, fL5, fU6, fL6, fU7, fL7, fU8, fL8, kids_lst, kids_tup, asgTg, asgL, mdOf, bRes, truth, netD_flat, ix_net0, len_names g.n8, rng_n g.n8]
    rw [comp_D (g := fun (k : Nat) => intsD [(k : Int)]) (by rw [List.length_range]; have := g.n8; omega), ← start_map]
    · simp only [exL_nil, exL_cons, exS, evq_v, evq_k, evq_gc, evq_tup, evq_lst, evq_o2, evq_ch, evq_neg, evq_nt, evq_an, evq_or, evq_ife, evq_ix, evq_sl, evq_call, evq_bi, evq_isi, evq_me, evq_bg, evq_heard, evq_comp, evq_dcomp, evL, evO, evS, evG, evC, evAn, evOr, slot, get_0, get_s, put_0, put_s, wipe_nil, wipe_cons, List.set_cons_zero, List.set_cons_succ, freeze, freeze1, occ, occL, occO, occS, occG, occS2, List.foldl_nil, List.foldl_cons, List.append_nil, List.nil_append, List.cons_append, List.map_cons, List.map_nil, List.replicate_succ, List.replicate_zero, ofRes_ok, ofRes_exc, ok_bind, exc_bind, opt_some, outR_ret, outR_nx, outR_exc, asT_f, asT_t, flat_tup, flat_pr, flat_lst, flat_dct, flat_int, flat_str, flat_bl, flat_non, flat_bag, flatL_nil, flatL_cons, Bool.and_true, Bool.true_and, Bool.and_false, Bool.false_and, if_true, if_false, ite_true, ite_false, Bool.false_eq_true, List.contains_nil, Nat.reduceSub, Nat.reduceAdd, Nat.reduceEqDiff, lent_D, lent_R, lent_S, lent_BR, lent_BD, fU0, fL0, fU1, fL1, fU2, fL2, fU3, fL3, fU4, fL4, fU5, fL5, fU6, fL6, fU7, fL7, fU8, fL8, kids_lst, kids_tup, asgTg, asgL, mdOf, bRes, truth, flat_lst]
    · intro q hq
      have z : (0 : Int) + (q : Int) = (q : Int) := by omega
      simp only [exL_nil, exL_cons, exS, evq_v, evq_k, evq_gc, evq_tup, evq_lst, evq_o2, evq_ch, evq_neg, evq_nt, evq_an, evq_or, evq_ife, evq_ix, evq_sl, evq_call, evq_bi, evq_isi, evq_me, evq_bg, evq_heard, evq_comp, evq_dcomp, evL, evO, evS, evG, evC, evAn, evOr, slot, get_0, get_s, put_0, put_s, wipe_nil, wipe_cons, List.set_cons_zero, List.set_cons_succ, freeze, freeze1, occ, occL, occO, occS, occG, occS2, List.foldl_nil, List.foldl_cons, List.append_nil, List.nil_append, List.cons_append, List.map_cons, List.map_nil, List.replicate_succ, List.replicate_zero, ofRes_ok, ofRes_exc, ok_bind, exc_bind, opt_some, outR_ret, outR_nx, outR_exc, asT_f, asT_t, flat_tup, flat_pr, flat_lst, flat_dct, flat_int, flat_str, flat_bl, flat_non, flat_bag, flatL_nil, flatL_cons, Bool.and_true, Bool.true_and, Bool.and_false, Bool.false_and, if_true, if_false, ite_true, ite_false, Bool.false_eq_true, List.contains_nil, Nat.reduceSub, Nat.reduceAdd, Nat.reduceEqDiff, lent_D, lent_R, lent_S, lent_BR, lent_BD, fU0, fL0, fU1, fL1, fU2, fL2, fU3, fL3, fU4, fL4, fU5, fL5, fU6, fL6, fU7, fL7, fU8, fL8, kids_lst, kids_tup, asgTg, asgL, mdOf, bRes, truth, turn, z]
      rfl
  have ns : startR n ≠ [] := fun z => by have := start_rws (n := n).len; rw [z] at this; exact hn0 this.symm
  have nn : nearR n ds ≠ [] := fun z => by have := g.rws.len; rw [z] at this; exact hn0 this.symm
  have s2 : ∃ x y, exS (callN Pf W (k + 1)) W (.for_ (.tup [3, 4]) (.e (.call 7 (.cons (.v 0) .nil))) (.cons (.mut .append 1 (.cons (.v 3) .nil) (.cons (.v 4) .nil)) (.cons (.mut .append 1 (.cons (.v 4) .nil) (.cons (.v 3) .nil)) .nil))) [] [some (.S, netD n ds), some (.D, .lst (rowsD (startR n))), none, none, none, none] B = .nx [some (.S, netD n ds), some (.D, .lst (rowsD (nearR n ds))), none, x, y, none] B := by
    refine ⟨(ds.foldl stepE (startR n, none, none)).2.1, (ds.foldl stepE (startR n, none, none)).2.2, ?_⟩
    · simp only [exL_nil, exL_cons, exS, evq_v, evq_k, evq_gc, evq_tup, evq_lst, evq_o2, evq_ch, evq_neg, evq_nt, evq_an, evq_or, evq_ife, evq_ix, evq_sl, evq_call, evq_bi, evq_isi, evq_me, evq_bg, evq_heard, evq_comp, evq_dcomp, evL, evO, evS, evG, evC, evAn, evOr, slot, get_0, get_s, put_0, put_s, wipe_nil, wipe_cons, List.set_cons_zero, List.set_cons_succ, freeze, freeze1, occ, occL, occO, occS, occG, occS2, List.foldl_nil, List.foldl_cons, List.append_nil, List.nil_append, List.cons_append, List.map_cons, List.map_nil, List.replicate_succ, List.replicate_zero, ofRes_ok, ofRes_exc, ok_bind, exc_bind, opt_some, outR_ret, outR_nx, outR_exc, asT_f, asT_t, flat_tup, flat_pr, flat_lst, flat_dct, flat_int, flat_str, flat_bl, flat_non, flat_bag, flatL_nil, flatL_cons, Bool.and_true, Bool.true_and, Bool.and_false, Bool.false_and, if_true, if_false, ite_true, ite_false, Bool.false_eq_true, List.contains_nil, Nat.reduceSub, Nat.reduceAdd, Nat.reduceEqDiff, lent_D, lent_R, lent_S, lent_BR, lent_BD, fU0, fL0, fU1, fL1, fU2, fL2, fU3, fL3, fU4, fL4, fU5, fL5, fU6, fL6, fU7, fL7, fU8, fL8, kids_lst, kids_tup, asgTg, asgL, mdOf, bRes, truth, netD_flat, hd, itemsW_tup (cpl_flat ds)]
      rw [forGo_fold (σ := List (List Int) × Option (Md × D) × Option (Md × D)) (S := fun s => [some (.S, netD n ds), some (.D, .lst (rowsD s.1)), none, s.2.1, s.2.2, none]) (step := stepE) (Iv := IvE n) (s := (startR n, none, none)) (h := cplD) ?_ ?_]
      · rw [stepE_fst]
        rfl
      · exact ⟨1, start_rws, by have := g.len; omega, fun q hq => let z := g.lt q hq; ⟨Nat.lt_trans z.1 z.2, z.2⟩⟩
      · rintro ⟨rs, x, y⟩ q r ⟨c, hr, hc, hq⟩
        dsimp only at hr hc ⊢
        obtain ⟨p1, p2⟩ := hq q List.mem_cons_self
        have r2 := hr.add (a := q.1) (x := (q.2 : Int)) ⟨by omega, by omega⟩
        have r3 := r2.add (a := q.2) (x := (q.1 : Int)) ⟨by omega, by omega⟩
        rw [List.length_cons] at hc
        refine ⟨?_, c + 1 + 1, r3, by omega, fun q hq' => hq q (List.mem_cons_of_mem _ hq')⟩
        have m1 := mutP_rows (rs := rs) (a := q.1) (f := .D) (by rw [hr.len]; exact p1)
        have m2 := mutF_rows (rs := rs) (a := q.1) (x := (q.2 : Int)) (f := .D) (g := .D) (by rw [hr.len]; exact p1) (fun r h => by have := (hr.row r h).1; omega)
        have m3 := mutP_rows (rs := addR rs q.1 (q.2 : Int)) (a := q.2) (f := .D) (by rw [r2.len]; exact p2)
        have m4 := mutF_rows (rs := addR rs q.1 (q.2 : Int)) (a := q.2) (x := (q.1 : Int)) (f := .D) (g := .D) (by rw [r2.len]; exact p2) (fun r h => by have := (r2.row r h).1; omega)
        simp only [exL_nil, exL_cons, exS, evq_v, evq_k, evq_gc, evq_tup, evq_lst, evq_o2, evq_ch, evq_neg, evq_nt, evq_an, evq_or, evq_ife, evq_ix, evq_sl, evq_call, evq_bi, evq_isi, evq_me, evq_bg, evq_heard, evq_comp, evq_dcomp, evL, evO, evS, evG, evC, evAn, evOr, slot, get_0, get_s, put_0, put_s, wipe_nil, wipe_cons, List.set_cons_zero, List.set_cons_succ, freeze, freeze1, occ, occL, occO, occS, occG, occS2, List.foldl_nil, List.foldl_cons, List.append_nil, List.nil_append, List.cons_append, List.map_cons, List.map_nil, List.replicate_succ, List.replicate_zero, ofRes_ok, ofRes_exc, ok_bind, exc_bind, opt_some, outR_ret, outR_nx, outR_exc, asT_f, asT_t, flat_tup, flat_pr, flat_lst, flat_dct, flat_int, flat_str, flat_bl, flat_non, flat_bag, flatL_nil, flatL_cons, Bool.and_true, Bool.true_and, Bool.and_false, Bool.false_and, if_true, if_false, ite_true, ite_false, Bool.false_eq_true, List.contains_nil, Nat.reduceSub, Nat.reduceAdd, Nat.reduceEqDiff, lent_D, lent_R, lent_S, lent_BR, lent_BD, fU0, fL0, fU1, fL1, fU2, fL2, fU3, fL3, fU4, fL4, fU5, fL5, fU6, fL6, fU7, fL7, fU8, fL8, kids_lst, kids_tup, asgTg, asgL, mdOf, bRes, truth, cplD, rowD, row2, lockOf, m1, m2, m3, m4]
        rfl
  obtain ⟨x, y, s2⟩ := s2
  rw [callN_py h8 rfl]
  show outR (exL _ _ (.cons _ (.cons _ _)) [] [some (.S, netD n ds), none, none, none, none, none] B) = _
  rw [peel s1, peel s2]
  simp only [exL_nil, exL_cons, exS, evq_v, evq_k, evq_gc, evq_tup, evq_lst, evq_o2, evq_ch, evq_neg, evq_nt, evq_an, evq_or, evq_ife, evq_ix, evq_sl, evq_call, evq_bi, evq_isi, evq_me, evq_bg, evq_heard, evq_comp, evq_dcomp, evL, evO, evS, evG, evC, evAn, evOr, slot, get_0, get_s, put_0, put_s, wipe_nil, wipe_cons, List.set_cons_zero, List.set_cons_succ, freeze, freeze1, occ, occL, occO, occS, occG, occS2, List.foldl_nil, List.foldl_cons, List.append_nil, List.nil_append, List.cons_append, List.map_cons, List.map_nil, List.replicate_succ, List.replicate_zero, ofRes_ok, ofRes_exc, ok_bind, exc_bind, opt_some, outR_ret, outR_nx, outR_exc, asT_f, asT_t, flat_tup, flat_pr, flat_lst, flat_dct, flat_int, flat_str, flat_bl, flat_non, flat_bag, flatL_nil, flatL_cons, Bool.and_true, Bool.true_and, Bool.and_false, Bool.false_and, if_true, if_false, ite_true, ite_false, Bool.false_eq_true, List.contains_nil, Nat.reduceSub, Nat.reduceAdd, Nat.reduceEqDiff, lent_D, lent_R, lent_S, lent_BR, lent_BD, fU0, fL0, fU1, fL1, fU2, fL2, fU3, fL3, fU4, fL4, fU5, fL5, fU6, fL6, fU7, fL7, fU8, fL8, kids_lst, kids_tup, asgTg, asgL, mdOf, bRes, truth, rows_nf nn, itemsW_S]
  rw [show rowsD (nearR n ds) = (nearR n ds).map intsD from rfl, comp_D (g := fun r => rowD (srt r)) (by rw [g.rws.len]; have := g.n8; omega)]
  · have e : ((nearR n ds).map fun r => rowD (srt r)) = (srtR n ds).map rowD := by unfold srtR; rw [List.map_map]; rfl
    rw [e]
    simp only [exL_nil, exL_cons, exS, evq_v, evq_k, evq_gc, evq_tup, evq_lst, evq_o2, evq_ch, evq_neg, evq_nt, evq_an, evq_or, evq_ife, evq_ix, evq_sl, evq_call, evq_bi, evq_isi, evq_me, evq_bg, evq_heard, evq_comp, evq_dcomp, evL, evO, evS, evG, evC, evAn, evOr, slot, get_0, get_s, put_0, put_s, wipe_nil, wipe_cons, List.set_cons_zero, List.set_cons_succ, freeze, freeze1, occ, occL, occO, occS, occG, occS2, List.foldl_nil, List.foldl_cons, List.append_nil, List.nil_append, List.cons_append, List.map_cons, List.map_nil, List.replicate_succ, List.replicate_zero, ofRes_ok, ofRes_exc, ok_bind, exc_bind, opt_some, outR_ret, outR_nx, outR_exc, asT_f, asT_t, flat_tup, flat_pr, flat_lst, flat_dct, flat_int, flat_str, flat_bl, flat_non, flat_bag, flatL_nil, flatL_cons, Bool.and_true, Bool.true_and, Bool.and_false, Bool.false_and, if_true, if_false, ite_true, ite_false, Bool.false_eq_true, List.contains_nil, Nat.reduceSub, Nat.reduceAdd, Nat.reduceEqDiff, lent_D, lent_R, lent_S, lent_BR, lent_BD, fU0, fL0, fU1, fL1, fU2, fL2, fU3, fL3, fU4, fL4, fU5, fL5, fU6, fL6, fU7, fL7, fU8, fL8, kids_lst, kids_tup, asgTg, asgL, mdOf, bRes, truth, tuple_flat (rowDs_flat (srtR n ds)), rowDs_flat (srtR n ds)]
  · intro r hr
    have hl := (g.rws.row r hr).1
    simp only [exL_nil, exL_cons, exS, evq_v, evq_k, evq_gc, evq_tup, evq_lst, evq_o2, evq_ch, evq_neg, evq_nt, evq_an, evq_or, evq_ife, evq_ix, evq_sl, evq_call, evq_bi, evq_isi, evq_me, evq_bg, evq_heard, evq_comp, evq_dcomp, evL, evO, evS, evG, evC, evAn, evOr, slot, get_0, get_s, put_0, put_s, wipe_nil, wipe_cons, List.set_cons_zero, List.set_cons_succ, freeze, freeze1, occ, occL, occO, occS, occG, occS2, List.foldl_nil, List.foldl_cons, List.append_nil, List.nil_append, List.cons_append, List.map_cons, List.map_nil, List.replicate_succ, List.replicate_zero, ofRes_ok, ofRes_exc, ok_bind, exc_bind, opt_some, outR_ret, outR_nx, outR_exc, asT_f, asT_t, flat_tup, flat_pr, flat_lst, flat_dct, flat_int, flat_str, flat_bl, flat_non, flat_bag, flatL_nil, flatL_cons, Bool.and_true, Bool.true_and, Bool.and_false, Bool.false_and, if_true, if_false, ite_true, ite_false, Bool.false_eq_true, List.contains_nil, Nat.reduceSub, Nat.reduceAdd, Nat.reduceEqDiff, lent_D, lent_R, lent_S, lent_BR, lent_BD, fU0, fL0, fU1, fL1, fU2, fL2, fU3, fL3, fU4, fL4, fU5, fL5, fU6, fL6, fU7, fL7, fU8, fL8, kids_lst, kids_tup, asgTg, asgL, mdOf, bRes, truth, turn, intsD, bi_sort_ints (l := r) (f := .S) (by have := g.len; omega), tuple_flat (intsFlat (srt r)), intsFlat (srt r)]
    rfl

theorem sp_is_number (h0 : Pf 0 = some (.py d_is_number)) {i : Int} : callN Pf W (k + 1) 0 [.int i] B = .ok ⟨.bl true, .D⟩ B := by
  rw [callN_py h0 rfl]
  rfl
theorem sp_is_index (h0 : Pf 0 = some (.py d_is_number)) (h1 : Pf 1 = some (.py d_is_index)) {i : Int} : callN Pf W (k + 2) 1 [.int i] B = .ok ⟨.bl (decide (0 ≤ i)), .D⟩ B := by
  have c : callR (callN Pf W (k + 1)) 0 [⟨.int i, .D⟩] B = .ok ⟨.bl true, .D⟩ B := callR_flat (sp_is_number h0) rfl
  rw [callN_py h1 rfl]
  simp only [exL_nil, exL_cons, exS, evq_v, evq_k, evq_gc, evq_tup, evq_lst, evq_o2, evq_ch, evq_neg, evq_nt, evq_an, evq_or, evq_ife, evq_ix, evq_sl, evq_call, evq_bi, evq_isi, evq_me, evq_bg, evq_heard, evq_comp, evq_dcomp, evL, evO, evS, evG, evC, evAn, evOr, slot, get_0, get_s, put_0, put_s, wipe_nil, wipe_cons, List.set_cons_zero, List.set_cons_succ, freeze, freeze1, occ, occL, occO, occS, occG, occS2, List.foldl_nil, List.foldl_cons, List.append_nil, List.nil_append, List.cons_append, List.map_cons, List.map_nil, List.replicate_succ, List.replicate_zero, ofRes_ok, ofRes_exc, ok_bind, exc_bind, opt_some, outR_ret, outR_nx, outR_exc, asT_f, asT_t, flat_tup, flat_pr, flat_lst, flat_dct, flat_int, flat_str, flat_bl, flat_non, flat_bag, flatL_nil, flatL_cons, Bool.and_true, Bool.true_and, Bool.and_false, Bool.false_and, if_true, if_false, ite_true, ite_false, Bool.false_eq_true, List.contains_nil, Nat.reduceSub, Nat.reduceAdd, Nat.reduceEqDiff, lent_D, lent_R, lent_S, lent_BR, lent_BD, fU0, fL0, fU1, fL1, fU2, fL2, fU3, fL3, fU4, fL4, fU5, fL5, fU6, fL6, fU7, fL7, fU8, fL8, kids_lst, kids_tup, asgTg, asgL, mdOf, bRes, truth, d_is_index, c, ge_int]
theorem sp_check_hall (h0 : Pf 0 = some (.py d_is_number)) (h1 : Pf 1 = some (.py d_is_index)) (h4 : Pf 4 = some (.py d_check_hall)) (hn : n ≤ 8) {a : Nat} (ha : a < n) : callN Pf W (k + 3) 4 [netD n ds, .int (a : Int)] B = .ok ⟨.non, .D⟩ B := by
  have c : callR (callN Pf W (k + 2)) 1 [⟨.int (a : Int), .D⟩] B = .ok ⟨.bl true, .D⟩ B := callR_flat (d := .bl true) (by
    have := sp_is_index (Pf := Pf) (W := W) (k := k) (B := B) h0 h1 (i := (a : Int))
    rw [show decide (0 ≤ (a : Int)) = true from decide_eq_true (by omega)] at this
    exact this) rfl
  have l : decide ((n : Int) ≤ (a : Int)) = false := decide_eq_false (by omega)
  rw [callN_py h4 rfl]
  simp only [exL_nil, exL_cons, exS, evq_v, evq_k, evq_gc, evq_tup, evq_lst, evq_o2, evq_ch, evq_neg, evq_nt, evq_an, evq_or, evq_ife, evq_ix, evq_sl, evq_call, evq_bi, evq_isi, evq_me, evq_bg, evq_heard, evq_comp, evq_dcomp, evL, evO, evS, evG, evC, evAn, evOr, slot, get_0, get_s, put_0, put_s, wipe_nil, wipe_cons, List.set_cons_zero, List.set_cons_succ, freeze, freeze1, occ, occL, occO, occS, occG, occS2, List.foldl_nil, List.foldl_cons, List.append_nil, List.nil_append, List.cons_append, List.map_cons, List.map_nil, List.replicate_succ, List.replicate_zero, ofRes_ok, ofRes_exc, ok_bind, exc_bind, opt_some, outR_ret, outR_nx, outR_exc, asT_f, asT_t, flat_tup, flat_pr, flat_lst, flat_dct, flat_int, flat_str, flat_bl, flat_non, flat_bag, flatL_nil, flatL_cons, Bool.and_true, Bool.true_and, Bool.and_false, Bool.false_and, if_true, if_false, ite_true, ite_false, Bool.false_eq_true, List.contains_nil, Nat.reduceSub, Nat.reduceAdd, Nat.reduceEqDiff, lent_D, lent_R, lent_S, lent_BR, lent_BD, fU0, fL0, fU1, fL1, fU2, fL2, fU3, fL3, fU4, fL4, fU5, fL5, fU6, fL6, fU7, fL7, fU8, fL8, kids_lst, kids_tup, asgTg, asgL, mdOf, bRes, truth, d_check_hall, c, ge_int, netD_flat, ix_net0, len_names hn, l, Bool.not_true]
theorem sp_hall_name (h0 : Pf 0 = some (.py d_is_number)) (h1 : Pf 1 = some (.py d_is_index)) (h4 : Pf 4 = some (.py d_check_hall)) (h6 : Pf 6 = some (.py d_hall_name)) (hn : n ≤ 8) {a : Nat} (ha : a < n) : callN Pf W (k + 4) 6 [netD n ds, .int (a : Int)] B = .ok ⟨.str (nm a), .D⟩ B := by
  have c : callR (callN Pf W (k + 3)) 4 [⟨netD n ds, .D⟩, ⟨.int (a : Int), .D⟩] B = .ok ⟨.non, .D⟩ B := callR_flat (sp_check_hall h0 h1 h4 hn ha) rfl
  rw [callN_py h6 rfl]
  simp only [exL_nil, exL_cons, exS, evq_v, evq_k, evq_gc, evq_tup, evq_lst, evq_o2, evq_ch, evq_neg, evq_nt, evq_an, evq_or, evq_ife, evq_ix, evq_sl, evq_call, evq_bi, evq_isi, evq_me, evq_bg, evq_heard, evq_comp, evq_dcomp, evL, evO, evS, evG, evC, evAn, evOr, slot, get_0, get_s, put_0, put_s, wipe_nil, wipe_cons, List.set_cons_zero, List.set_cons_succ, freeze, freeze1, occ, occL, occO, occS, occG, occS2, List.foldl_nil, List.foldl_cons, List.append_nil, List.nil_append, List.cons_append, List.map_cons, List.map_nil, List.replicate_succ, List.replicate_zero, ofRes_ok, ofRes_exc, ok_bind, exc_bind, opt_some, outR_ret, outR_nx, outR_exc, asT_f, asT_t, flat_tup, flat_pr, flat_lst, flat_dct, flat_int, flat_str, flat_bl, flat_non, flat_bag, flatL_nil, flatL_cons, Bool.and_true, Bool.true_and, Bool.and_false, Bool.false_and, if_true, if_false, ite_true, ite_false, Bool.false_eq_true, List.contains_nil, Nat.reduceSub, Nat.reduceAdd, Nat.reduceEqDiff, lent_D, lent_R, lent_S, lent_BR, lent_BD, fU0, fL0, fU1, fL1, fU2, fL2, fU3, fL3, fU4, fL4, fU5, fL5, fU6, fL6, fU7, fL7, fU8, fL8, kids_lst, kids_tup, asgTg, asgL, mdOf, bRes, truth, d_hall_name, c, netD_flat, ix_net0, ix_names (f := .D) ha hn]
theorem ix_rows {rs : List (List Int)} {a : Nat} {f : Fl} (ha : a < rs.length) : ixF ⟨.tup (rs.map rowD), f⟩ ⟨.int (a : Int), .D⟩ = some ⟨rowD rs[a], .D⟩ := by
  have e : L2.atI (rs.map rowD) (a : Int) = some (rowD rs[a]) := L2.atI_nat (by rw [List.getElem?_map, List.getElem?_eq_getElem ha]; rfl)
  show (match L2.atI (rs.map rowD) (a : Int) with | some d => flagC (tf f) d | none => none) = _
  rw [e]
  show flagC (tf f) (rowD rs[a]) = _
  unfold flagC
  rw [if_pos (rowD_flat _)]
theorem ix_rowsL {rs : List (List Int)} {a : Nat} {f : Fl} (ha : a < rs.length) : ixF ⟨.lst (rs.map rowD), f⟩ ⟨.int (a : Int), .D⟩ = some ⟨rowD rs[a], .D⟩ := by
  have e : L2.atI (rs.map rowD) (a : Int) = some (rowD rs[a]) := L2.atI_nat (by rw [List.getElem?_map, List.getElem?_eq_getElem ha]; rfl)
  show (match L2.atI (rs.map rowD) (a : Int) with | some d => flagC f d | none => none) = _
  rw [e]
  show flagC f (rowD rs[a]) = _
  unfold flagC
  rw [if_pos (rowD_flat _)]
/-- the row of a hall -/
def rowAt (n : Nat) (ds : List (Nat × Nat)) (a : Nat) : List Int := (srtR n ds).getD a []
theorem rowAt_eq (g : Good n ds) {a : Nat} (ha : a < n) : ∃ h : a < (srtR n ds).length, (srtR n ds)[a] = rowAt n ds a := by
  have h : a < (srtR n ds).length := by rw [g.srws.len]; exact ha
  refine ⟨h, ?_⟩
  unfold rowAt
  rw [List.getD_eq_getElem?_getD, List.getElem?_eq_getElem h]
  rfl
theorem sp_near (h0 : Pf 0 = some (.py d_is_number)) (h1 : Pf 1 = some (.py d_is_index)) (h4 : Pf 4 = some (.py d_check_hall)) (h7 : Pf 7 = some (.py d_doors_by_number)) (h8 : Pf 8 = some (.py d_all_near)) (h9 : Pf 9 = some (.py d_near)) (g : Good n ds) {a : Nat} (ha : a < n) : callN Pf W (k + 4) 9 [netD n ds, .int (a : Int)] B = .ok ⟨rowD (rowAt n ds a), .D⟩ B := by
  have c : callR (callN Pf W (k + 3)) 4 [⟨netD n ds, .D⟩, ⟨.int (a : Int), .D⟩] B = .ok ⟨.non, .D⟩ B := callR_flat (sp_check_hall h0 h1 h4 g.n8 ha) rfl
  have c2 : callR (callN Pf W (k + 3)) 8 [⟨netD n ds, .D⟩] B = .ok ⟨.tup ((srtR n ds).map rowD), .D⟩ B := callR_flat (sp_all_near (k := k + 1) h7 h8 g) (rowDs_flat _)
  obtain ⟨hr, er⟩ := rowAt_eq g ha
  have i := ix_rows (f := .D) hr
  rw [er] at i
  rw [callN_py h9 rfl]
  simp only [exL_nil, exL_cons, exS, evq_v, evq_k, evq_gc, evq_tup, evq_lst, evq_o2, evq_ch, evq_neg, evq_nt, evq_an, evq_or, evq_ife, evq_ix, evq_sl, evq_call, evq_bi, evq_isi, evq_me, evq_bg, evq_heard, evq_comp, evq_dcomp, evL, evO, evS, evG, evC, evAn, evOr, slot, get_0, get_s, put_0, put_s, wipe_nil, wipe_cons, List.set_cons_zero, List.set_cons_succ, freeze, freeze1, occ, occL, occO, occS, occG, occS2, List.foldl_nil, List.foldl_cons, List.append_nil, List.nil_append, List.cons_append, List.map_cons, List.map_nil, List.replicate_succ, List.replicate_zero, ofRes_ok, ofRes_exc, ok_bind, exc_bind, opt_some, outR_ret, outR_nx, outR_exc, asT_f, asT_t, flat_tup, flat_pr, flat_lst, flat_dct, flat_int, flat_str, flat_bl, flat_non, flat_bag, flatL_nil, flatL_cons, Bool.and_true, Bool.true_and, Bool.and_false, Bool.false_and, if_true, if_false, ite_true, ite_false, Bool.false_eq_true, List.contains_nil, Nat.reduceSub, Nat.reduceAdd, Nat.reduceEqDiff, lent_D, lent_R, lent_S, lent_BR, lent_BD, fU0, fL0, fU1, fL1, fU2, fL2, fU3, fL3, fU4, fL4, fU5, fL5, fU6, fL6, fU7, fL7, fU8, fL8, kids_lst, kids_tup, asgTg, asgL, mdOf, bRes, truth, d_near, c, c2, netD_flat, i]
theorem in_row {r : List Int} {i : Int} {f g : Fl} : o2F .isin ⟨.int i, f⟩ ⟨rowD r, g⟩ = some ⟨.bl (decide (i ∈ r)), .D⟩ := by
  have e : o2F .isin ⟨.int i, f⟩ ⟨rowD r, g⟩ = if Wh.okP (.int i) && Wh.okP (rowD r) then plain (.bl (inL (.int i) (r.map D.int))) else none := rfl
  have ok : Wh.okP (rowD r) = true := by
    unfold Wh.okP
    rw [show (rowD r).isP = true from ints_isP r, decide_eq_true (by have := rowD_dep r; omega)]
    rfl
  rw [e, ok, if_pos (by rfl)]
  have : inL (.int i) (r.map D.int) = decide (i ∈ r) := by
    unfold inL
    rw [List.any_map]
    by_cases h : i ∈ r
    · rw [decide_eq_true h, List.any_eq_true]
      exact ⟨i, h, eqD_refl rfl⟩
    · rw [decide_eq_false h, List.any_eq_false]
      intro j hj z
      have z : eqD (.int j) (.int i) = true := z
      have e1 : o2F .eq ⟨.int j, .D⟩ ⟨.int i, .D⟩ = some ⟨.bl (eqD (.int j) (.int i)), .D⟩ := by
        show (if Wh.okP (.int j) && Wh.okP (.int i) then plain (.bl (eqD (.int j) (.int i))) else none) = _
        rw [if_pos (by rfl)]
        rfl
      have e2 := e1.symm.trans eq_int
      rw [z] at e2
      by_cases q : j = i
      · exact h (q ▸ hj)
      · rw [decide_eq_false q] at e2
        cases e2
  rw [this]
  rfl
theorem sp_are_near (h0 : Pf 0 = some (.py d_is_number)) (h1 : Pf 1 = some (.py d_is_index)) (h4 : Pf 4 = some (.py d_check_hall)) (h7 : Pf 7 = some (.py d_doors_by_number)) (h8 : Pf 8 = some (.py d_all_near)) (h9 : Pf 9 = some (.py d_near)) (h10 : Pf 10 = some (.py d_are_near)) (g : Good n ds) {a b : Nat} (ha : a < n) (hb : b < n) :
    callN Pf W (k + 5) 10 [netD n ds, .int (a : Int), .int (b : Int)] B = .ok ⟨.bl (decide ((b : Int) ∈ rowAt n ds a)), .D⟩ B := by
  have c : callR (callN Pf W (k + 4)) 4 [⟨netD n ds, .D⟩, ⟨.int (b : Int), .D⟩] B = .ok ⟨.non, .D⟩ B := callR_flat (sp_check_hall (k := k + 1) h0 h1 h4 g.n8 hb) rfl
  have c2 : callR (callN Pf W (k + 4)) 9 [⟨netD n ds, .D⟩, ⟨.int (a : Int), .D⟩] B = .ok ⟨rowD (rowAt n ds a), .D⟩ B := callR_flat (sp_near h0 h1 h4 h7 h8 h9 g ha) (rowD_flat _)
  rw [callN_py h10 rfl]
  simp only [exL_nil, exL_cons, exS, evq_v, evq_k, evq_gc, evq_tup, evq_lst, evq_o2, evq_ch, evq_neg, evq_nt, evq_an, evq_or, evq_ife, evq_ix, evq_sl, evq_call, evq_bi, evq_isi, evq_me, evq_bg, evq_heard, evq_comp, evq_dcomp, evL, evO, evS, evG, evC, evAn, evOr, slot, get_0, get_s, put_0, put_s, wipe_nil, wipe_cons, List.set_cons_zero, List.set_cons_succ, freeze, freeze1, occ, occL, occO, occS, occG, occS2, List.foldl_nil, List.foldl_cons, List.append_nil, List.nil_append, List.cons_append, List.map_cons, List.map_nil, List.replicate_succ, List.replicate_zero, ofRes_ok, ofRes_exc, ok_bind, exc_bind, opt_some, outR_ret, outR_nx, outR_exc, asT_f, asT_t, flat_tup, flat_pr, flat_lst, flat_dct, flat_int, flat_str, flat_bl, flat_non, flat_bag, flatL_nil, flatL_cons, Bool.and_true, Bool.true_and, Bool.and_false, Bool.false_and, if_true, if_false, ite_true, ite_false, Bool.false_eq_true, List.contains_nil, Nat.reduceSub, Nat.reduceAdd, Nat.reduceEqDiff, lent_D, lent_R, lent_S, lent_BR, lent_BD, fU0, fL0, fU1, fL1, fU2, fL2, fU3, fL3, fU4, fL4, fU5, fL5, fU6, fL6, fU7, fL7, fU8, fL8, kids_lst, kids_tup, asgTg, asgL, mdOf, bRes, truth, d_are_near, c, c2, netD_flat, in_row]
theorem sp_door_counts (h7 : Pf 7 = some (.py d_doors_by_number)) (h8 : Pf 8 = some (.py d_all_near)) (h11 : Pf 11 = some (.py d_door_counts)) (g : Good n ds) : callN Pf W (k + 3) 11 [netD n ds] B = .ok ⟨.tup ((srtR n ds).map fun r => .int ((r.length : Int) - 1)), .D⟩ B := by
  have c2 : callR (callN Pf W (k + 2)) 8 [⟨netD n ds, .D⟩] B = .ok ⟨.tup ((srtR n ds).map rowD), .D⟩ B := callR_flat (sp_all_near h7 h8 g) (rowDs_flat _)
  have fl : D.flatL ((srtR n ds).map fun r => D.int ((r.length : Int) - 1)) = true := flatL_iff.mpr fun d hd => by
    obtain ⟨i, _, rfl⟩ := List.mem_map.mp hd
    rfl
  rw [callN_py h11 rfl]
  simp only [exL_nil, exL_cons, exS, evq_v, evq_k, evq_gc, evq_tup, evq_lst, evq_o2, evq_ch, evq_neg, evq_nt, evq_an, evq_or, evq_ife, evq_ix, evq_sl, evq_call, evq_bi, evq_isi, evq_me, evq_bg, evq_heard, evq_comp, evq_dcomp, evL, evO, evS, evG, evC, evAn, evOr, slot, get_0, get_s, put_0, put_s, wipe_nil, wipe_cons, List.set_cons_zero, List.set_cons_succ, freeze, freeze1, occ, occL, occO, occS, occG, occS2, List.foldl_nil, List.foldl_cons, List.append_nil, List.nil_append, List.cons_append, List.map_cons, List.map_nil, List.replicate_succ, List.replicate_zero, ofRes_ok, ofRes_exc, ok_bind, exc_bind, opt_some, outR_ret, outR_nx, outR_exc, asT_f, asT_t, flat_tup, flat_pr, flat_lst, flat_dct, flat_int, flat_str, flat_bl, flat_non, flat_bag, flatL_nil, flatL_cons, Bool.and_true, Bool.true_and, Bool.and_false, Bool.false_and, if_true, if_false, ite_true, ite_false, Bool.false_eq_true, List.contains_nil, Nat.reduceSub, Nat.reduceAdd, Nat.reduceEqDiff, lent_D, lent_R, lent_S, lent_BR, lent_BD, fU0, fL0, fU1, fL1, fU2, fL2, fU3, fL3, fU4, fL4, fU5, fL5, fU6, fL6, fU7, fL7, fU8, fL8, kids_lst, kids_tup, asgTg, asgL, mdOf, bRes, truth, d_door_counts, c2, netD_flat, itemsW_tup (rowDs_flat (srtR n ds))]
  rw [comp_D (h := rowD) (g := fun r => .int ((r.length : Int) - 1)) (by rw [g.srws.len]; have := g.n8; omega)]
  · simp only [exL_nil, exL_cons, exS, evq_v, evq_k, evq_gc, evq_tup, evq_lst, evq_o2, evq_ch, evq_neg, evq_nt, evq_an, evq_or, evq_ife, evq_ix, evq_sl, evq_call, evq_bi, evq_isi, evq_me, evq_bg, evq_heard, evq_comp, evq_dcomp, evL, evO, evS, evG, evC, evAn, evOr, slot, get_0, get_s, put_0, put_s, wipe_nil, wipe_cons, List.set_cons_zero, List.set_cons_succ, freeze, freeze1, occ, occL, occO, occS, occG, occS2, List.foldl_nil, List.foldl_cons, List.append_nil, List.nil_append, List.cons_append, List.map_cons, List.map_nil, List.replicate_succ, List.replicate_zero, ofRes_ok, ofRes_exc, ok_bind, exc_bind, opt_some, outR_ret, outR_nx, outR_exc, asT_f, asT_t, flat_tup, flat_pr, flat_lst, flat_dct, flat_int, flat_str, flat_bl, flat_non, flat_bag, flatL_nil, flatL_cons, Bool.and_true, Bool.true_and, Bool.and_false, Bool.false_and, if_true, if_false, ite_true, ite_false, Bool.false_eq_true, List.contains_nil, Nat.reduceSub, Nat.reduceAdd, Nat.reduceEqDiff, lent_D, lent_R, lent_S, lent_BR, lent_BD, fU0, fL0, fU1, fL1, fU2, fL2, fU3, fL3, fU4, fL4, fU5, fL5, fU6, fL6, fU7, fL7, fU8, fL8, kids_lst, kids_tup, asgTg, asgL, mdOf, bRes, truth, tuple_flat fl, fl]
  · intro r hr
    have hl : biF .len [⟨rowD r, .D⟩] = some ⟨.int (r.length : Int), .D⟩ := by
      show some (RV.mk (.int (((r.map D.int).length : Nat) : Int)) .D) = _
      rw [List.length_map]
    simp only [exL_nil, exL_cons, exS, evq_v, evq_k, evq_gc, evq_tup, evq_lst, evq_o2, evq_ch, evq_neg, evq_nt, evq_an, evq_or, evq_ife, evq_ix, evq_sl, evq_call, evq_bi, evq_isi, evq_me, evq_bg, evq_heard, evq_comp, evq_dcomp, evL, evO, evS, evG, evC, evAn, evOr, slot, get_0, get_s, put_0, put_s, wipe_nil, wipe_cons, List.set_cons_zero, List.set_cons_succ, freeze, freeze1, occ, occL, occO, occS, occG, occS2, List.foldl_nil, List.foldl_cons, List.append_nil, List.nil_append, List.cons_append, List.map_cons, List.map_nil, List.replicate_succ, List.replicate_zero, ofRes_ok, ofRes_exc, ok_bind, exc_bind, opt_some, outR_ret, outR_nx, outR_exc, asT_f, asT_t, flat_tup, flat_pr, flat_lst, flat_dct, flat_int, flat_str, flat_bl, flat_non, flat_bag, flatL_nil, flatL_cons, Bool.and_true, Bool.true_and, Bool.and_false, Bool.false_and, if_true, if_false, ite_true, ite_false, Bool.false_eq_true, List.contains_nil, Nat.reduceSub, Nat.reduceAdd, Nat.reduceEqDiff, lent_D, lent_R, lent_S, lent_BR, lent_BD, fU0, fL0, fU1, fL1, fU2, fL2, fU3, fL3, fU4, fL4, fU5, fL5, fU6, fL6, fU7, fL7, fU8, fL8, kids_lst, kids_tup, asgTg, asgL, mdOf, bRes, truth, turn, rowD_flat, hl, sub_int]

theorem find_nm : ∀ n : Fin 9, ∀ a : Fin 8, a.val < n.val → ((NM.take n.val).map D.str).findIdx? (fun d => eqD d (.str (nm a.val))) = some a.val := by decide +kernel
theorem in_nm : ∀ n : Fin 9, ∀ a : Fin 8, a.val < n.val → inL (.str (nm a.val)) ((NM.take n.val).map D.str) = true := by decide +kernel
theorem in_zz : ∀ n : Fin 9, inL (.str (Str.ofString "zz")) ((NM.take n.val).map D.str) = false := by decide +kernel
theorem strs_isP (l : List Str) : D.isPL (l.map D.str) = true := isPL_iff.mpr fun d hd => by
  obtain ⟨i, _, rfl⟩ := List.mem_map.mp hd
  rfl
theorem strs_dep (l : List Str) : D.depL (l.map D.str) ≤ 0 := depL_le.mpr fun d hd => by
  obtain ⟨i, _, rfl⟩ := List.mem_map.mp hd
  exact Nat.le_refl _
theorem names_okP : Wh.okP (namesD n) = true := by
  unfold Wh.okP
  have : (namesD n).dep ≤ 60 := by
    show D.depL _ + 1 ≤ 60
    have := strs_dep (NM.take n)
    omega
  rw [show (namesD n).isP = true from strs_isP _, decide_eq_true this]
  rfl
theorem namesL_okP : Wh.okP (.lst ((NM.take n).map D.str)) = true := by
  unfold Wh.okP
  have : (D.lst ((NM.take n).map D.str)).dep ≤ 60 := by
    show D.depL _ + 1 ≤ 60
    have := strs_dep (NM.take n)
    omega
  rw [show (D.lst ((NM.take n).map D.str)).isP = true from strs_isP _, decide_eq_true this]
  rfl
theorem idx_names {a : Nat} {f g : Fl} (ha : a < n) (hn : n ≤ 8) : meF .index ⟨namesD n, f⟩ [⟨.str (nm a), g⟩] = some ⟨.int (a : Int), .D⟩ := by
  show (if Wh.okP (namesD n) && Wh.okP (.str (nm a)) then match ((NM.take n).map D.str).findIdx? (fun d => eqD d (.str (nm a))) with
      | some j => plain (.int (j : Int))
      | none => none
      else none) = _
  rw [names_okP, if_pos (by rfl), find_nm ⟨n, by omega⟩ ⟨a, by omega⟩ ha]
  rfl
theorem idx_namesL {a : Nat} {f g : Fl} (ha : a < n) (hn : n ≤ 8) : meF .index ⟨.lst ((NM.take n).map D.str), f⟩ [⟨.str (nm a), g⟩] = some ⟨.int (a : Int), .D⟩ := by
  show (if Wh.okP (.lst ((NM.take n).map D.str)) && Wh.okP (.str (nm a)) then match ((NM.take n).map D.str).findIdx? (fun d => eqD d (.str (nm a))) with
      | some j => plain (.int (j : Int))
      | none => none
      else none) = _
  rw [namesL_okP, if_pos (by rfl), find_nm ⟨n, by omega⟩ ⟨a, by omega⟩ ha]
  rfl
theorem notin_nm {a : Nat} {f g : Fl} (ha : a < n) (hn : n ≤ 8) : o2F .notin ⟨.str (nm a), f⟩ ⟨namesD n, g⟩ = some ⟨.bl false, .D⟩ := by
  show (if Wh.okP (.str (nm a)) && Wh.okP (namesD n) then plain (.bl (!inL (.str (nm a)) ((NM.take n).map D.str))) else none) = _
  rw [names_okP, if_pos (by rfl), in_nm ⟨n, by omega⟩ ⟨a, by omega⟩ ha]
  rfl
theorem notin_zz {f g : Fl} (hn : n ≤ 8) : o2F .notin ⟨.str (Str.ofString "zz"), f⟩ ⟨namesD n, g⟩ = some ⟨.bl true, .D⟩ := by
  show (if Wh.okP (.str (Str.ofString "zz")) && Wh.okP (namesD n) then plain (.bl (!inL (.str (Str.ofString "zz")) ((NM.take n).map D.str))) else none) = _
  rw [names_okP, if_pos (by rfl), in_zz ⟨n, by omega⟩]
  rfl
theorem meOk_names {f : Fl} : meOk .index ⟨namesD n, f⟩ = true := rfl
theorem meOk_lst {f : Fl} {l : List D} : meOk .index ⟨.lst l, f⟩ = true := rfl
theorem sp_hall_number (h2 : Pf 2 = some (.py d_is_name)) (h5 : Pf 5 = some (.py d_hall_number)) (hn : n ≤ 8) {a : Nat} (ha : a < n) : callN Pf W (k + 2) 5 [netD n ds, .str (nm a)] B = .ok ⟨.int (a : Int), .D⟩ B := by
  have c : callR (callN Pf W (k + 1)) 2 [⟨.str (nm a), .D⟩] B = .ok ⟨.bl true, .D⟩ B := callR_flat (sp_is_name h2 (by omega)) rfl
  rw [callN_py h5 rfl]
  simp only [exL_nil, exL_cons, exS, evq_v, evq_k, evq_gc, evq_tup, evq_lst, evq_o2, evq_ch, evq_neg, evq_nt, evq_an, evq_or, evq_ife, evq_ix, evq_sl, evq_call, evq_bi, evq_isi, evq_me, evq_bg, evq_heard, evq_comp, evq_dcomp, evL, evO, evS, evG, evC, evAn, evOr, slot, get_0, get_s, put_0, put_s, wipe_nil, wipe_cons, List.set_cons_zero, List.set_cons_succ, freeze, freeze1, occ, occL, occO, occS, occG, occS2, List.foldl_nil, List.foldl_cons, List.append_nil, List.nil_append, List.cons_append, List.map_cons, List.map_nil, List.replicate_succ, List.replicate_zero, ofRes_ok, ofRes_exc, ok_bind, exc_bind, opt_some, outR_ret, outR_nx, outR_exc, asT_f, asT_t, flat_tup, flat_pr, flat_lst, flat_dct, flat_int, flat_str, flat_bl, flat_non, flat_bag, flatL_nil, flatL_cons, Bool.and_true, Bool.true_and, Bool.and_false, Bool.false_and, if_true, if_false, ite_true, ite_false, Bool.false_eq_true, List.contains_nil, Nat.reduceSub, Nat.reduceAdd, Nat.reduceEqDiff, lent_D, lent_R, lent_S, lent_BR, lent_BD, fU0, fL0, fU1, fL1, fU2, fL2, fU3, fL3, fU4, fL4, fU5, fL5, fU6, fL6, fU7, fL7, fU8, fL8, kids_lst, kids_tup, asgTg, asgL, mdOf, bRes, truth, d_hall_number, c, netD_flat, ix_net0, Bool.not_true, notin_nm (f := .D) (g := .D) ha hn, idx_names (f := .D) (g := .D) ha hn, meOk_names]
theorem sp_no_number (h2 : Pf 2 = some (.py d_is_name)) (h5 : Pf 5 = some (.py d_hall_number)) (hn : n ≤ 8) {d : D} (hd : d ∈ [D.str (Str.ofString "zz"), .non, .int 1, .str (Str.ofString "A")]) : callN Pf W (k + 2) 5 [netD n ds, d] B = .exc ⟨1, []⟩ B := by
  rw [callN_py h5 rfl]
  simp only [List.mem_cons, List.not_mem_nil, or_false] at hd
  rcases hd with rfl | rfl | rfl | rfl
  · have c : callR (callN Pf W (k + 1)) 2 [⟨.str (Str.ofString "zz"), .D⟩] B = .ok ⟨.bl true, .D⟩ B := callR_flat (sp_is_name_zz h2) rfl
    simp only [exL_nil, exL_cons, exS, evq_v, evq_k, evq_gc, evq_tup, evq_lst, evq_o2, evq_ch, evq_neg, evq_nt, evq_an, evq_or, evq_ife, evq_ix, evq_sl, evq_call, evq_bi, evq_isi, evq_me, evq_bg, evq_heard, evq_comp, evq_dcomp, evL, evO, evS, evG, evC, evAn, evOr, slot, get_0, get_s, put_0, put_s, wipe_nil, wipe_cons, List.set_cons_zero, List.set_cons_succ, freeze, freeze1, occ, occL, occO, occS, occG, occS2, List.foldl_nil, List.foldl_cons, List.append_nil, List.nil_append, List.cons_append, List.map_cons, List.map_nil, List.replicate_succ, List.replicate_zero, ofRes_ok, ofRes_exc, ok_bind, exc_bind, opt_some, outR_ret, outR_nx, outR_exc, asT_f, asT_t, flat_tup, flat_pr, flat_lst, flat_dct, flat_int, flat_str, flat_bl, flat_non, flat_bag, flatL_nil, flatL_cons, Bool.and_true, Bool.true_and, Bool.and_false, Bool.false_and, if_true, if_false, ite_true, ite_false, Bool.false_eq_true, List.contains_nil, Nat.reduceSub, Nat.reduceAdd, Nat.reduceEqDiff, lent_D, lent_R, lent_S, lent_BR, lent_BD, fU0, fL0, fU1, fL1, fU2, fL2, fU3, fL3, fU4, fL4, fU5, fL5, fU6, fL6, fU7, fL7, fU8, fL8, kids_lst, kids_tup, asgTg, asgL, mdOf, bRes, truth, d_hall_number, c, netD_flat, ix_net0, Bool.not_true, notin_zz (f := .D) (g := .D) hn]
  · have c : callR (callN Pf W (k + 1)) 2 [⟨.non, .D⟩] B = .ok ⟨.bl false, .D⟩ B := callR_flat (sp_is_name_non h2) rfl
    simp only [exL_nil, exL_cons, exS, evq_v, evq_k, evq_gc, evq_tup, evq_lst, evq_o2, evq_ch, evq_neg, evq_nt, evq_an, evq_or, evq_ife, evq_ix, evq_sl, evq_call, evq_bi, evq_isi, evq_me, evq_bg, evq_heard, evq_comp, evq_dcomp, evL, evO, evS, evG, evC, evAn, evOr, slot, get_0, get_s, put_0, put_s, wipe_nil, wipe_cons, List.set_cons_zero, List.set_cons_succ, freeze, freeze1, occ, occL, occO, occS, occG, occS2, List.foldl_nil, List.foldl_cons, List.append_nil, List.nil_append, List.cons_append, List.map_cons, List.map_nil, List.replicate_succ, List.replicate_zero, ofRes_ok, ofRes_exc, ok_bind, exc_bind, opt_some, outR_ret, outR_nx, outR_exc, asT_f, asT_t, flat_tup, flat_pr, flat_lst, flat_dct, flat_int, flat_str, flat_bl, flat_non, flat_bag, flatL_nil, flatL_cons, Bool.and_true, Bool.true_and, Bool.and_false, Bool.false_and, if_true, if_false, ite_true, ite_false, Bool.false_eq_true, List.contains_nil, Nat.reduceSub, Nat.reduceAdd, Nat.reduceEqDiff, lent_D, lent_R, lent_S, lent_BR, lent_BD, fU0, fL0, fU1, fL1, fU2, fL2, fU3, fL3, fU4, fL4, fU5, fL5, fU6, fL6, fU7, fL7, fU8, fL8, kids_lst, kids_tup, asgTg, asgL, mdOf, bRes, truth, d_hall_number, c, Bool.not_false]
  · have c : callR (callN Pf W (k + 1)) 2 [⟨.int 1, .D⟩] B = .ok ⟨.bl false, .D⟩ B := callR_flat (sp_is_name_int h2) rfl
    simp only [exL_nil, exL_cons, exS, evq_v, evq_k, evq_gc, evq_tup, evq_lst, evq_o2, evq_ch, evq_neg, evq_nt, evq_an, evq_or, evq_ife, evq_ix, evq_sl, evq_call, evq_bi, evq_isi, evq_me, evq_bg, evq_heard, evq_comp, evq_dcomp, evL, evO, evS, evG, evC, evAn, evOr, slot, get_0, get_s, put_0, put_s, wipe_nil, wipe_cons, List.set_cons_zero, List.set_cons_succ, freeze, freeze1, occ, occL, occO, occS, occG, occS2, List.foldl_nil, List.foldl_cons, List.append_nil, List.nil_append, List.cons_append, List.map_cons, List.map_nil, List.replicate_succ, List.replicate_zero, ofRes_ok, ofRes_exc, ok_bind, exc_bind, opt_some, outR_ret, outR_nx, outR_exc, asT_f, asT_t, flat_tup, flat_pr, flat_lst, flat_dct, flat_int, flat_str, flat_bl, flat_non, flat_bag, flatL_nil, flatL_cons, Bool.and_true, Bool.true_and, Bool.and_false, Bool.false_and, if_true, if_false, ite_true, ite_false, Bool.false_eq_true, List.contains_nil, Nat.reduceSub, Nat.reduceAdd, Nat.reduceEqDiff, lent_D, lent_R, lent_S, lent_BR, lent_BD, fU0, fL0, fU1, fL1, fU2, fL2, fU3, fL3, fU4, fL4, fU5, fL5, fU6, fL6, fU7, fL7, fU8, fL8, kids_lst, kids_tup, asgTg, asgL, mdOf, bRes, truth, d_hall_number, c, Bool.not_false]
  · have c : callR (callN Pf W (k + 1)) 2 [⟨.str (Str.ofString "A"), .D⟩] B = .ok ⟨.bl false, .D⟩ B := callR_flat (sp_is_name_A h2) rfl
    simp only [exL_nil, exL_cons, exS, evq_v, evq_k, evq_gc, evq_tup, evq_lst, evq_o2, evq_ch, evq_neg, evq_nt, evq_an, evq_or, evq_ife, evq_ix, evq_sl, evq_call, evq_bi, evq_isi, evq_me, evq_bg, evq_heard, evq_comp, evq_dcomp, evL, evO, evS, evG, evC, evAn, evOr, slot, get_0, get_s, put_0, put_s, wipe_nil, wipe_cons, List.set_cons_zero, List.set_cons_succ, freeze, freeze1, occ, occL, occO, occS, occG, occS2, List.foldl_nil, List.foldl_cons, List.append_nil, List.nil_append, List.cons_append, List.map_cons, List.map_nil, List.replicate_succ, List.replicate_zero, ofRes_ok, ofRes_exc, ok_bind, exc_bind, opt_some, outR_ret, outR_nx, outR_exc, asT_f, asT_t, flat_tup, flat_pr, flat_lst, flat_dct, flat_int, flat_str, flat_bl, flat_non, flat_bag, flatL_nil, flatL_cons, Bool.and_true, Bool.true_and, Bool.and_false, Bool.false_and, if_true, if_false, ite_true, ite_false, Bool.false_eq_true, List.contains_nil, Nat.reduceSub, Nat.reduceAdd, Nat.reduceEqDiff, lent_D, lent_R, lent_S, lent_BR, lent_BD, fU0, fL0, fU1, fL1, fU2, fL2, fU3, fL3, fU4, fL4, fU5, fL5, fU6, fL6, fU7, fL7, fU8, fL8, kids_lst, kids_tup, asgTg, asgL, mdOf, bRes, truth, d_hall_number, c, Bool.not_false]
/-! the law's own rows -/
theorem list_names {f : Fl} : biF .list [⟨namesD n, f⟩] = some ⟨.lst ((NM.take n).map D.str), .D⟩ := by
  show flagN (tf f) ((NM.take n).map D.str) (.lst ((NM.take n).map D.str)) = _
  unfold flagN
  rw [if_pos (strs_flat _)]
theorem len_namesL {f : Fl} (hn : n ≤ 8) : biF .len [⟨.lst ((NM.take n).map D.str), f⟩] = some ⟨.int (n : Int), .D⟩ := by
  show some (RV.mk (.int (((NM.take n).map D.str).length : Int)) .D) = _
  rw [List.length_map, List.length_take, show NM.length = 8 from rfl, Nat.min_eq_left hn]
abbrev Sl : Type := Option (Md × D)
def stepN (s : List (List Int) × Sl × Sl × Sl × Sl) (q : Nat × Nat) : List (List Int) × Sl × Sl × Sl × Sl := (stepR s.1 q, some (.S, .str (nm q.1)), some (.S, .str (nm q.2)), some (.S, .int (q.1 : Int)), some (.S, .int (q.2 : Int)))
theorem stepN_fst : ∀ {l : List (Nat × Nat)} {rs : List (List Int)} {e : Sl × Sl × Sl × Sl}, l.foldl stepN (rs, e) = (l.foldl stepR rs, (l.foldl stepN (rs, e)).2)
  | [], rs, e => rfl
  | q :: r, rs, e => by
    rw [List.foldl_cons, List.foldl_cons]
    exact stepN_fst
def IvN (n : Nat) (r : List (Nat × Nat)) (s : List (List Int) × Sl × Sl × Sl × Sl) : Prop := ∃ c, Rws n n c s.1 ∧ c + 2 * r.length ≤ 200 ∧ ∀ q ∈ r, q.1 < n ∧ q.2 < n
theorem sp_law_near (h19 : Pf 19 = some (.py d__law_near)) (g : Good n ds) : callN Pf W (k + 1) 19 [netD n ds] B = .ok ⟨.lst (rowsD (srtR n ds)), .D⟩ B := by
  have hn0 : n ≠ 0 := by have := g.n1; omega
  have s1 : exS (callN Pf W k) W (.asg (.n 1) (.bi .list (.cons (.ix (.v 0) (.k (.int 0))) .nil))) [] [some (.S, netD n ds), none, none, none, none, none, none, none, none] B = .nx [some (.S, netD n ds), some (.D, .lst ((NM.take n).map D.str)), none, none, none, none, none, none, none] B := by
    simp only [exL_nil, exL_cons, exS, evq_v, evq_k, evq_gc, evq_tup, evq_lst, evq_o2, evq_ch, evq_neg, evq_nt, evq_an, evq_or, evq_ife, evq_ix, evq_sl, evq_call, evq_bi, evq_isi, evq_me, evq_bg, evq_heard, evq_comp, evq_dcomp, evL, evO, evS, evG, evC, evAn, evOr, slot, get_0, get_s, put_0, put_s, wipe_nil, wipe_cons, List.set_cons_zero, List.set_cons_succ, freeze, freeze1, occ, occL, occO, occS, occG, occS2, List.foldl_nil, List.foldl_cons, List.append_nil, List.nil_append, List.cons_append, List.map_cons, List.map_nil, List.replicate_succ, List.replicate_zero, ofRes_ok, ofRes_exc, ok_bind, exc_bind, opt_some, outR_ret, outR_nx, outR_exc, asT_f, asT_t, flat_tup, flat_pr, flat_lst, flat_dct, flat_int, flat_str, flat_bl, flat_non, flat_bag, flatL_nil, flatL_cons, Bool.and_true, Bool.true_and, Bool.and_false, Bool.false_and, if_true, if_false, ite_true, ite_false, Bool.false_eq_true, List.contains_nil, Nat.reduceSub, Nat.reduceAdd, Nat.reduceEqDiff, lent_D, lent_R, lent_S, lent_BR, lent_BD, fU0, fL0, fU1, fL1, fU2, fL2, fU3, fL3, fU4, fL4, fU5, fL5, fU6, fL6, fU7, fL7, fU8, fL8, kids_lst, kids_tup, asgTg, asgL, mdOf, bRes, truth, netD_flat, ix_net0, list_names]
  have s2 : exS (callN Pf W k) W (.asg (.n 2) (.comp [3] (.lst (.cons (.v 3) .nil)) (.one (.n 3) (.rng (.cons (.bi .len (.cons (.v 1) .nil)) .nil)) .nil))) [] [some (.S, netD n ds), some (.D, .lst ((NM.take n).map D.str)), none, none, none, none, none, none, none] B = .nx [some (.S, netD n ds), some (.D, .lst ((NM.take n).map D.str)), some (.D, .lst (rowsD (startR n))), none, none, none, none, none, none] B := by
    simp only [exL_nil, exL_cons, exS, evq_v, evq_k, evq_gc, evq_tup, evq_lst, evq_o2, evq_ch, evq_neg, evq_nt, evq_an, evq_or, evq_ife, evq_ix, evq_sl, evq_call, evq_bi, evq_isi, evq_me, evq_bg, evq_heard, evq_comp, evq_dcomp, evL, evO, evS, evG, evC, evAn, evOr, slot, get_0, get_s, put_0, put_s, wipe_nil, wipe_cons, List.set_cons_zero, List.set_cons_succ, freeze, freeze1, occ, occL, occO, occS, occG, occS2, List.foldl_nil, List.foldl_cons, List.append_nil, List.nil_append, List.cons_append, List.map_cons, List.map_nil, List.replicate_succ, List.replicate_zero, ofRes_ok, ofRes_exc, ok_bind, exc_bind, opt_some, outR_ret, outR_nx, outR_exc, asT_f, asT_t, flat_tup, flat_pr, flat_lst, flat_dct, flat_int, flat_str, flat_bl, flat_non, flat_bag, flatL_nil, flatL_cons, Bool.and_true, Bool.true_and, Bool.and_false, Bool.false_and, if_true, if_false, ite_true, ite_false, Bool.false_eq_true, List.contains_nil, Nat.reduceSub, Nat.reduceAdd, Nat.reduceEqDiff, lent_D, lent_R, lent_S, lent_BR, lent_BD, fU0, fL0, fU1, fL1, fU2, fL2, fU3, fL3, fU4, fL4, fU5, fL5, fU6, fL6, fU7, fL7, fU8, fL8, kids_lst, kids_tup, asgTg, asgL, mdOf, bRes, truth, len_namesL g.n8, rng_n g.n8]
    rw [comp_D (g := fun (k : Nat) => intsD [(k : Int)]) (by rw [List.length_range]; have := g.n8; omega), ← start_map]
    · simp only [exL_nil, exL_cons, exS, evq_v, evq_k, evq_gc, evq_tup, evq_lst, evq_o2, evq_ch, evq_neg, evq_nt, evq_an, evq_or, evq_ife, evq_ix, evq_sl, evq_call, evq_bi, evq_isi, evq_me, evq_bg, evq_heard, evq_comp, evq_dcomp, evL, evO, evS, evG, evC, evAn, evOr, slot, get_0, get_s, put_0, put_s, wipe_nil, wipe_cons, List.set_cons_zero, List.set_cons_succ, freeze, freeze1, occ, occL, occO, occS, occG, occS2, List.foldl_nil, List.foldl_cons, List.append_nil, List.nil_append, List.cons_append, List.map_cons, List.map_nil, List.replicate_succ, List.replicate_zero, ofRes_ok, ofRes_exc, ok_bind, exc_bind, opt_some, outR_ret, outR_nx, outR_exc, asT_f, asT_t, flat_tup, flat_pr, flat_lst, flat_dct, flat_int, flat_str, flat_bl, flat_non, flat_bag, flatL_nil, flatL_cons, Bool.and_true, Bool.true_and, Bool.and_false, Bool.false_and, if_true, if_false, ite_true, ite_false, Bool.false_eq_true, List.contains_nil, Nat.reduceSub, Nat.reduceAdd, Nat.reduceEqDiff, lent_D, lent_R, lent_S, lent_BR, lent_BD, fU0, fL0, fU1, fL1, fU2, fL2, fU3, fL3, fU4, fL4, fU5, fL5, fU6, fL6, fU7, fL7, fU8, fL8, kids_lst, kids_tup, asgTg, asgL, mdOf, bRes, truth, flat_lst]
    · intro q hq
      have z : (0 : Int) + (q : Int) = (q : Int) := by omega
      simp only [exL_nil, exL_cons, exS, evq_v, evq_k, evq_gc, evq_tup, evq_lst, evq_o2, evq_ch, evq_neg, evq_nt, evq_an, evq_or, evq_ife, evq_ix, evq_sl, evq_call, evq_bi, evq_isi, evq_me, evq_bg, evq_heard, evq_comp, evq_dcomp, evL, evO, evS, evG, evC, evAn, evOr, slot, get_0, get_s, put_0, put_s, wipe_nil, wipe_cons, List.set_cons_zero, List.set_cons_succ, freeze, freeze1, occ, occL, occO, occS, occG, occS2, List.foldl_nil, List.foldl_cons, List.append_nil, List.nil_append, List.cons_append, List.map_cons, List.map_nil, List.replicate_succ, List.replicate_zero, ofRes_ok, ofRes_exc, ok_bind, exc_bind, opt_some, outR_ret, outR_nx, outR_exc, asT_f, asT_t, flat_tup, flat_pr, flat_lst, flat_dct, flat_int, flat_str, flat_bl, flat_non, flat_bag, flatL_nil, flatL_cons, Bool.and_true, Bool.true_and, Bool.and_false, Bool.false_and, if_true, if_false, ite_true, ite_false, Bool.false_eq_true, List.contains_nil, Nat.reduceSub, Nat.reduceAdd, Nat.reduceEqDiff, lent_D, lent_R, lent_S, lent_BR, lent_BD, fU0, fL0, fU1, fL1, fU2, fL2, fU3, fL3, fU4, fL4, fU5, fL5, fU6, fL6, fU7, fL7, fU8, fL8, kids_lst, kids_tup, asgTg, asgL, mdOf, bRes, truth, turn, z]
      rfl
  have nn : nearR n ds ≠ [] := fun z => by have := g.rws.len; rw [z] at this; exact hn0 this.symm
  have s3 : ∃ x y z w, exS (callN Pf W k) W (.for_ (.tup [4, 5]) (.e (.ix (.v 0) (.k (.int 1)))) (.cons (.asg (.tup [6, 7]) (.tup (.cons (.me .index (.v 1) (.cons (.v 4) .nil)) (.cons (.me .index (.v 1) (.cons (.v 5) .nil)) .nil)))) (.cons (.mut .append 2 (.cons (.v 6) .nil) (.cons (.v 7) .nil)) (.cons (.mut .append 2 (.cons (.v 7) .nil) (.cons (.v 6) .nil)) .nil)))) [] [some (.S, netD n ds), some (.D, .lst ((NM.take n).map D.str)), some (.D, .lst (rowsD (startR n))), none, none, none, none, none, none] B
      = .nx [some (.S, netD n ds), some (.D, .lst ((NM.take n).map D.str)), some (.D, .lst (rowsD (nearR n ds))), none, x, y, z, w, none] B := by
    let o := (ds.foldl stepN (startR n, none, none, none, none)).2
    refine ⟨o.1, o.2.1, o.2.2.1, o.2.2.2, ?_⟩
    simp only [exL_nil, exL_cons, exS, evq_v, evq_k, evq_gc, evq_tup, evq_lst, evq_o2, evq_ch, evq_neg, evq_nt, evq_an, evq_or, evq_ife, evq_ix, evq_sl, evq_call, evq_bi, evq_isi, evq_me, evq_bg, evq_heard, evq_comp, evq_dcomp, evL, evO, evS, evG, evC, evAn, evOr, slot, get_0, get_s, put_0, put_s, wipe_nil, wipe_cons, List.set_cons_zero, List.set_cons_succ, freeze, freeze1, occ, occL, occO, occS, occG, occS2, List.foldl_nil, List.foldl_cons, List.append_nil, List.nil_append, List.cons_append, List.map_cons, List.map_nil, List.replicate_succ, List.replicate_zero, ofRes_ok, ofRes_exc, ok_bind, exc_bind, opt_some, outR_ret, outR_nx, outR_exc, asT_f, asT_t, flat_tup, flat_pr, flat_lst, flat_dct, flat_int, flat_str, flat_bl, flat_non, flat_bag, flatL_nil, flatL_cons, Bool.and_true, Bool.true_and, Bool.and_false, Bool.false_and, if_true, if_false, ite_true, ite_false, Bool.false_eq_true, List.contains_nil, Nat.reduceSub, Nat.reduceAdd, Nat.reduceEqDiff, lent_D, lent_R, lent_S, lent_BR, lent_BD, fU0, fL0, fU1, fL1, fU2, fL2, fU3, fL3, fU4, fL4, fU5, fL5, fU6, fL6, fU7, fL7, fU8, fL8, kids_lst, kids_tup, asgTg, asgL, mdOf, bRes, truth, netD_flat, ix_net1, itemsW_doors, doorsD_flat]
    rw [forGo_fold (σ := List (List Int) × Sl × Sl × Sl × Sl) (S := fun s => [some (.S, netD n ds), some (.D, .lst ((NM.take n).map D.str)), some (.D, .lst (rowsD s.1)), none, s.2.1, s.2.2.1, s.2.2.2.1, s.2.2.2.2, none]) (step := stepN) (Iv := IvN n) (s := (startR n, none, none, none, none)) (h := doorD) ?_ ?_]
    · rw [stepN_fst]
      rfl
    · exact ⟨1, start_rws, by have := g.len; omega, fun q hq => let z := g.lt q hq; ⟨Nat.lt_trans z.1 z.2, z.2⟩⟩
    · rintro ⟨rs, e1, e2, e3, e4⟩ q r ⟨c, hr, hc, hq⟩
      dsimp only at hr hc ⊢
      obtain ⟨p1, p2⟩ := hq q List.mem_cons_self
      have r2 := hr.add (a := q.1) (x := (q.2 : Int)) ⟨by omega, by omega⟩
      have r3 := r2.add (a := q.2) (x := (q.1 : Int)) ⟨by omega, by omega⟩
      rw [List.length_cons] at hc
      refine ⟨?_, c + 1 + 1, r3, by omega, fun q hq' => hq q (List.mem_cons_of_mem _ hq')⟩
      have m1 := mutP_rows (rs := rs) (a := q.1) (f := .D) (by rw [hr.len]; exact p1)
      have m2 := mutF_rows (rs := rs) (a := q.1) (x := (q.2 : Int)) (f := .D) (g := .D) (by rw [hr.len]; exact p1) (fun r h => by have := (hr.row r h).1; omega)
      have m3 := mutP_rows (rs := addR rs q.1 (q.2 : Int)) (a := q.2) (f := .D) (by rw [r2.len]; exact p2)
      have m4 := mutF_rows (rs := addR rs q.1 (q.2 : Int)) (a := q.2) (x := (q.1 : Int)) (f := .D) (g := .D) (by rw [r2.len]; exact p2) (fun r h => by have := (r2.row r h).1; omega)
      simp only [exL_nil, exL_cons, exS, evq_v, evq_k, evq_gc, evq_tup, evq_lst, evq_o2, evq_ch, evq_neg, evq_nt, evq_an, evq_or, evq_ife, evq_ix, evq_sl, evq_call, evq_bi, evq_isi, evq_me, evq_bg, evq_heard, evq_comp, evq_dcomp, evL, evO, evS, evG, evC, evAn, evOr, slot, get_0, get_s, put_0, put_s, wipe_nil, wipe_cons, List.set_cons_zero, List.set_cons_succ, freeze, freeze1, occ, occL, occO, occS, occG, occS2, List.foldl_nil, List.foldl_cons, List.append_nil, List.nil_append, List.cons_append, List.map_cons, List.map_nil, List.replicate_succ, List.replicate_zero, ofRes_ok, ofRes_exc, ok_bind, exc_bind, opt_some, outR_ret, outR_nx, outR_exc, asT_f, asT_t, flat_tup, flat_pr, flat_lst, flat_dct, flat_int, flat_str, flat_bl, flat_non, flat_bag, flatL_nil, flatL_cons, Bool.and_true, Bool.true_and, Bool.and_false, Bool.false_and, if_true, if_false, ite_true, ite_false, Bool.false_eq_true, List.contains_nil, Nat.reduceSub, Nat.reduceAdd, Nat.reduceEqDiff, lent_D, lent_R, lent_S, lent_BR, lent_BD, fU0, fL0, fU1, fL1, fU2, fL2, fU3, fL3, fU4, fL4, fU5, fL5, fU6, fL6, fU7, fL7, fU8, fL8, kids_lst, kids_tup, asgTg, asgL, mdOf, bRes, truth, doorD, lockOf, meOk_lst, idx_namesL (f := .BD) (g := .D) p1 g.n8, idx_namesL (f := .BD) (g := .D) p2 g.n8, strs_flat, m1, m2, m3, m4]
      rfl
  obtain ⟨x, y, z, w, s3⟩ := s3
  rw [callN_py h19 rfl]
  show outR (exL _ _ (.cons _ (.cons _ (.cons _ (.cons _ _)))) [] [some (.S, netD n ds), none, none, none, none, none, none, none, none] B) = _
  rw [peel s1, peel s2, peel s3]
  simp only [exL_nil, exL_cons, exS, evq_v, evq_k, evq_gc, evq_tup, evq_lst, evq_o2, evq_ch, evq_neg, evq_nt, evq_an, evq_or, evq_ife, evq_ix, evq_sl, evq_call, evq_bi, evq_isi, evq_me, evq_bg, evq_heard, evq_comp, evq_dcomp, evL, evO, evS, evG, evC, evAn, evOr, slot, get_0, get_s, put_0, put_s, wipe_nil, wipe_cons, List.set_cons_zero, List.set_cons_succ, freeze, freeze1, occ, occL, occO, occS, occG, occS2, List.foldl_nil, List.foldl_cons, List.append_nil, List.nil_append, List.cons_append, List.map_cons, List.map_nil, List.replicate_succ, List.replicate_zero, ofRes_ok, ofRes_exc, ok_bind, exc_bind, opt_some, outR_ret, outR_nx, outR_exc, asT_f, asT_t, flat_tup, flat_pr, flat_lst, flat_dct, flat_int, flat_str, flat_bl, flat_non, flat_bag, flatL_nil, flatL_cons, Bool.and_true, Bool.true_and, Bool.and_false, Bool.false_and, if_true, if_false, ite_true, ite_false, Bool.false_eq_true, List.contains_nil, Nat.reduceSub, Nat.reduceAdd, Nat.reduceEqDiff, lent_D, lent_R, lent_S, lent_BR, lent_BD, fU0, fL0, fU1, fL1, fU2, fL2, fU3, fL3, fU4, fL4, fU5, fL5, fU6, fL6, fU7, fL7, fU8, fL8, kids_lst, kids_tup, asgTg, asgL, mdOf, bRes, truth, rows_nf nn, itemsW_S]
  rw [show rowsD (nearR n ds) = (nearR n ds).map intsD from rfl, comp_D (g := fun r => intsD (srt r)) (by rw [g.rws.len]; have := g.n8; omega)]
  · have e : ((nearR n ds).map fun r => intsD (srt r)) = rowsD (srtR n ds) := by unfold srtR rowsD; rw [List.map_map]; rfl
    rw [e]
    simp only [exL_nil, exL_cons, exS, evq_v, evq_k, evq_gc, evq_tup, evq_lst, evq_o2, evq_ch, evq_neg, evq_nt, evq_an, evq_or, evq_ife, evq_ix, evq_sl, evq_call, evq_bi, evq_isi, evq_me, evq_bg, evq_heard, evq_comp, evq_dcomp, evL, evO, evS, evG, evC, evAn, evOr, slot, get_0, get_s, put_0, put_s, wipe_nil, wipe_cons, List.set_cons_zero, List.set_cons_succ, freeze, freeze1, occ, occL, occO, occS, occG, occS2, List.foldl_nil, List.foldl_cons, List.append_nil, List.nil_append, List.cons_append, List.map_cons, List.map_nil, List.replicate_succ, List.replicate_zero, ofRes_ok, ofRes_exc, ok_bind, exc_bind, opt_some, outR_ret, outR_nx, outR_exc, asT_f, asT_t, flat_tup, flat_pr, flat_lst, flat_dct, flat_int, flat_str, flat_bl, flat_non, flat_bag, flatL_nil, flatL_cons, Bool.and_true, Bool.true_and, Bool.and_false, Bool.false_and, if_true, if_false, ite_true, ite_false, Bool.false_eq_true, List.contains_nil, Nat.reduceSub, Nat.reduceAdd, Nat.reduceEqDiff, lent_D, lent_R, lent_S, lent_BR, lent_BD, fU0, fL0, fU1, fL1, fU2, fL2, fU3, fL3, fU4, fL4, fU5, fL5, fU6, fL6, fU7, fL7, fU8, fL8, kids_lst, kids_tup, asgTg, asgL, mdOf, bRes, truth, flat_lst]
  · intro r hr
    have hl := (g.rws.row r hr).1
    simp only [exL_nil, exL_cons, exS, evq_v, evq_k, evq_gc, evq_tup, evq_lst, evq_o2, evq_ch, evq_neg, evq_nt, evq_an, evq_or, evq_ife, evq_ix, evq_sl, evq_call, evq_bi, evq_isi, evq_me, evq_bg, evq_heard, evq_comp, evq_dcomp, evL, evO, evS, evG, evC, evAn, evOr, slot, get_0, get_s, put_0, put_s, wipe_nil, wipe_cons, List.set_cons_zero, List.set_cons_succ, freeze, freeze1, occ, occL, occO, occS, occG, occS2, List.foldl_nil, List.foldl_cons, List.append_nil, List.nil_append, List.cons_append, List.map_cons, List.map_nil, List.replicate_succ, List.replicate_zero, ofRes_ok, ofRes_exc, ok_bind, exc_bind, opt_some, outR_ret, outR_nx, outR_exc, asT_f, asT_t, flat_tup, flat_pr, flat_lst, flat_dct, flat_int, flat_str, flat_bl, flat_non, flat_bag, flatL_nil, flatL_cons, Bool.and_true, Bool.true_and, Bool.and_false, Bool.false_and, if_true, if_false, ite_true, ite_false, Bool.false_eq_true, List.contains_nil, Nat.reduceSub, Nat.reduceAdd, Nat.reduceEqDiff, lent_D, lent_R, lent_S, lent_BR, lent_BD, fU0, fL0, fU1, fL1, fU2, fL2, fU3, fL3, fU4, fL4, fU5, fL5, fU6, fL6, fU7, fL7, fU8, fL8, kids_lst, kids_tup, asgTg, asgL, mdOf, bRes, truth, turn, intsD, bi_sort_ints (l := r) (f := .S) (by have := g.len; omega)]
end
end Wh

set_option maxHeartbeats 0
namespace Tk26
open PySem PySem.Spec PyProof.Rows L2 Wh
abbrev prog : Program := PySem.Challenge.pw_watchhalls_k26_words_of_nets
def top (i : Nat) : Stmt := prog.main.body.getD i (.Pass ⟨0, 0, 0, 0⟩)
def dd (x : String) (i : Nat) : He.DefD := ⟨(Str.ofString x, none), Str.ofString x, Str.ofString x, defArgs (top i), defBody (top i), defScope (top i), [], []⟩
def n_law : List Str := [Str.ofString "script", Str.ofString "bag", Str.ofString "lap", Str.ofString "net", Str.ofString "halls", Str.ofString "doors", Str.ofString "own", Str.ofString "row", Str.ofString "couples", Str.ofString "one", Str.ofString "other", Str.ofString "k", Str.ofString "name", Str.ofString "n"]
def r_law : SL := (.cons (.for_ (.n 2) (.rng (.cons (.k (.int 8)) .nil)) (.cons (.asg (.n 3) (.call 21 (.cons (.v 1) .nil))) (.cons (.asg (.tup [4, 5]) (.v 3)) (.cons (.asg (.n 6) (.comp [7] (.bi .tuple (.cons (.v 7) .nil)) (.one (.n 7) (.e (.call 19 (.cons (.v 3) .nil))) .nil))) (.cons (.asg (.n 8) (.bi .tuple (.cons (.bi .sorted (.cons (.comp [9, 10] (.tup (.cons (.me .index (.v 4) (.cons (.v 9) .nil)) (.cons (.me .index (.v 4) (.cons (.v 10) .nil)) .nil))) (.one (.tup [9, 10]) (.v 5) .nil)) .nil)) .nil))) (.cons (.ite (.nt (.call 15 (.cons (.lst (.cons (.call 3 (.cons (.v 3) .nil)) (.cons (.call 7 (.cons (.v 3) .nil)) (.cons (.call 8 (.cons (.v 3) .nil)) (.cons (.call 11 (.cons (.v 3) .nil)) .nil))))) (.cons (.lst (.cons (.bi .len (.cons (.v 4) .nil)) (.cons (.v 8) (.cons (.bi .tuple (.cons (.v 6) .nil)) (.cons (.bi .tuple (.cons (.comp [7] (.o2 .sub (.bi .len (.cons (.v 7) .nil)) (.k (.int 1))) (.one (.n 7) (.v 6) .nil)) .nil)) .nil))))) .nil)))) (.cons (.ret (.k (.bl false))) .nil) .nil) (.cons (.for_ (.tup [11, 12]) (.enum (.v 4)) (.cons (.ite (.nt (.call 15 (.cons (.lst (.cons (.call 5 (.cons (.v 3) (.cons (.v 12) .nil))) (.cons (.call 6 (.cons (.v 3) (.cons (.v 11) .nil))) (.cons (.call 9 (.cons (.v 3) (.cons (.v 11) .nil))) .nil)))) (.cons (.lst (.cons (.v 11) (.cons (.v 12) (.cons (.ix (.v 6) (.v 11)) .nil)))) .nil)))) (.cons (.ret (.k (.bl false))) .nil) .nil) (.cons (.ite (.nt (.call 15 (.cons (.comp [13] (.call 10 (.cons (.v 3) (.cons (.v 11) (.cons (.v 13) .nil)))) (.one (.n 13) (.rng (.cons (.bi .len (.cons (.v 4) .nil)) .nil)) .nil)) (.cons (.comp [13] (.o2 .isin (.v 13) (.ix (.v 6) (.v 11))) (.one (.n 13) (.rng (.cons (.bi .len (.cons (.v 4) .nil)) .nil)) .nil)) .nil)))) (.cons (.ret (.k (.bl false))) .nil) .nil) .nil))) (.cons (.ite (.o2 .ne (.heard 22 1 (.call 5 (.cons (.v 3) (.cons (.call 14 (.cons (.v 1) (.cons (.lst (.cons (.k (.str (Str.ofString "zz"))) (.cons (.k .non) (.cons (.k (.int 1)) (.cons (.k (.str (Str.ofString "A"))) .nil))))) .nil))) .nil)))) (.tup (.cons (.k (.str (Str.ofString "nothing"))) .nil))) (.cons (.ret (.k (.bl false))) .nil) .nil) .nil)))))))) (.cons (.ret (.k (.bl true))) .nil))
def li : LawI := { N := n_law, n := 14, r := r_law, j := 1, tb := true }
def tx : Tx where
  all := [(0, Str.ofString "is_number"), (1, Str.ofString "is_index"), (2, Str.ofString "is_name"), (3, Str.ofString "many_halls"), (4, Str.ofString "check_hall"), (5, Str.ofString "hall_number"), (6, Str.ofString "hall_name"), (7, Str.ofString "doors_by_number"), (8, Str.ofString "all_near"), (9, Str.ofString "near"), (10, Str.ofString "are_near"), (11, Str.ofString "door_counts"), (13, Str.ofString "_law_take"), (14, Str.ofString "_law_some"), (15, Str.ofString "_law_alike"), (16, Str.ofString "_law_pairs"), (17, Str.ofString "_law_net"), (18, Str.ofString "_law_net_by"), (19, Str.ofString "_law_near"), (20, Str.ofString "_law_whole_net"), (21, Str.ofString "_law_known_net"), (12, Str.ofString "_law_bag"), (23, Str.ofString "law"), (22, Str.ofString "_law_heard")]
  csts := [(0, (Str.ofString "LETTERS", (.str (Str.ofString "abcdefghijklmnopqrstuvwxyz")))), (1, (Str.ofString "DIGITS", (.str (Str.ofString "0123456789")))), (2, (Str.ofString "MOST_LETTERS", (.int 8))), (3, (Str.ofString "RESERVED", (.tup [(.str (Str.ofString "at")), (.str (Str.ofString "by")), (.str (Str.ofString "caught")), (.str (Str.ofString "door")), (.str (Str.ofString "doors")), (.str (Str.ofString "fold")), (.str (Str.ofString "from")), (.str (Str.ofString "go")), (.str (Str.ofString "goes")), (.str (Str.ofString "halls")), (.str (Str.ofString "in")), (.str (Str.ofString "into")), (.str (Str.ofString "no")), (.str (Str.ofString "none")), (.str (Str.ofString "of")), (.str (Str.ofString "play")), (.str (Str.ofString "post")), (.str (Str.ofString "posts")), (.str (Str.ofString "runner")), (.str (Str.ofString "safe")), (.str (Str.ofString "stand")), (.str (Str.ofString "to")), (.str (Str.ofString "turn")), (.str (Str.ofString "watch"))])))]
  excs := [(1, Str.ofString "Nothing")]
  heard := [(22, (Str.ofString "_law_heard", 1))]
  hvl := [15]
  tbl := []
  ds := [⟨0, dd "is_number" 9, n_is_number, d_is_number⟩, ⟨1, dd "is_index" 10, n_is_index, d_is_index⟩, ⟨2, dd "is_name" 11, n_is_name, d_is_name⟩, ⟨3, dd "many_halls" 13, n_many_halls, d_many_halls⟩, ⟨4, dd "check_hall" 14, n_check_hall, d_check_hall⟩, ⟨5, dd "hall_number" 15, n_hall_number, d_hall_number⟩, ⟨6, dd "hall_name" 16, n_hall_name, d_hall_name⟩, ⟨7, dd "doors_by_number" 17, n_doors_by_number, d_doors_by_number⟩, ⟨8, dd "all_near" 18, n_all_near, d_all_near⟩, ⟨9, dd "near" 19, n_near, d_near⟩, ⟨10, dd "are_near" 20, n_are_near, d_are_near⟩, ⟨11, dd "door_counts" 21, n_door_counts, d_door_counts⟩, ⟨13, dd "_law_take" 24, n__law_take, d__law_take⟩, ⟨14, dd "_law_some" 25, n__law_some, d__law_some⟩, ⟨15, dd "_law_alike" 26, n__law_alike, d__law_alike⟩, ⟨16, dd "_law_pairs" 27, n__law_pairs, d__law_pairs⟩, ⟨17, dd "_law_net" 28, n__law_net, d__law_net⟩, ⟨18, dd "_law_net_by" 29, n__law_net_by, d__law_net_by⟩, ⟨19, dd "_law_near" 30, n__law_near, d__law_near⟩, ⟨20, dd "_law_whole_net" 31, n__law_whole_net, d__law_whole_net⟩, ⟨21, dd "_law_known_net" 32, n__law_known_net, d__law_known_net⟩]
  bag := dd "_law_bag" 23
  law := dd "law" 34
  hds := [dd "_law_heard" 33]
  tf := [(Str.ofString "law", none)]
def lawTop : Nat := 34
def looseN : List Str := [Str.ofString "_wall", Str.ofString "HallError", Str.ofString "Nothing", Str.ofString "LETTERS", Str.ofString "DIGITS", Str.ofString "MOST_LETTERS", Str.ofString "RESERVED", Str.ofString "is_number", Str.ofString "is_index", Str.ofString "is_name", Str.ofString "many_halls", Str.ofString "check_hall", Str.ofString "hall_number", Str.ofString "hall_name", Str.ofString "doors_by_number", Str.ofString "all_near", Str.ofString "near", Str.ofString "are_near", Str.ofString "door_counts", Str.ofString "_law_bag", Str.ofString "_law_take", Str.ofString "_law_some", Str.ofString "_law_alike", Str.ofString "_law_pairs", Str.ofString "_law_net", Str.ofString "_law_net_by", Str.ofString "_law_near", Str.ofString "_law_whole_net", Str.ofString "_law_known_net", Str.ofString "_law_heard"]
theorem ok1 : tx.okB = true := by decide +kernel
theorem ok2 : tx.ds.all tx.chkB = true := by decide +kernel
theorem ok3 : bagDefB tx = true := by decide +kernel
theorem ok4 : lawDefB tx li = true := by decide +kernel
end Tk26

set_option maxHeartbeats 4000000
/-! Wh: law k26, in plain words. -/
namespace Wh
open PySem
/-- the law's names: the bag alone is known -/
def E1 (δ : Env) : Prop := ∃ a0 a2 a3 a4 a5 a6 a8 a11 a12, δ = [a0, some (.S, .bag), a2, a3, a4, a5, a6, none, a8, none, none, a11, a12, none]
def prD (a : Nat) : D := .pr [.int (a : Int), .str (nm a)]
theorem enum_map {n : Nat} (hn : n ≤ 8) : enumL ((NM.take n).map D.str) = (List.range n).map prD := by
  match n, hn with
  | 0, _ => rfl
  | 1, _ => rfl
  | 2, _ => rfl
  | 3, _ => rfl
  | 4, _ => rfl
  | 5, _ => rfl
  | 6, _ => rfl
  | 7, _ => rfl
  | 8, _ => rfl
section
variable {n : Nat} {ds : List (Nat × Nat)}
theorem shInt {i : Int} (h : -1000 < i ∧ i < 1000) : shOk (.int i) = true := by simp [shOk, h.1, h.2]
theorem shRow {m c : Nat} {r : List Int} (hm : m ≤ 8) (h : ∀ i ∈ r, 0 ≤ i ∧ i < (m : Int)) (hc : r.length ≤ c) : shOk (rowD r) = true ∧ shB (rowD r) ≤ c * 7 + 4 := by
  refine ⟨shOkL_iff.mpr fun d hd => ?_, ?_⟩
  · obtain ⟨i, hi, rfl⟩ := List.mem_map.mp hd
    have := h i hi
    exact shInt ⟨by omega, by omega⟩
  · show shBL (r.map D.int) + 4 ≤ _
    have := shBL_le (c := 5) (l := r.map D.int) fun d hd => by
      obtain ⟨i, hi, rfl⟩ := List.mem_map.mp hd
      exact Nat.le_refl _
    rw [List.length_map] at this
    omega
theorem shRows {m c k : Nat} {rs : List (List Int)} (h : Rws k m c rs) (hm : m ≤ 8) : shOk (.tup (rs.map rowD)) = true ∧ shB (.tup (rs.map rowD)) ≤ k * (c * 7 + 6) + 4 := by
  refine ⟨shOkL_iff.mpr fun d hd => ?_, ?_⟩
  · obtain ⟨r, hr, rfl⟩ := List.mem_map.mp hd
    exact (shRow hm (h.row r hr).2 (h.row r hr).1).1
  · show shBL (rs.map rowD) + 4 ≤ _
    have := shBL_le (c := c * 7 + 4) (l := rs.map rowD) fun d hd => by
      obtain ⟨r, hr, rfl⟩ := List.mem_map.mp hd
      exact (shRow hm (h.row r hr).2 (h.row r hr).1).2
    rw [List.length_map, h.len, show c * 7 + 4 + 2 = c * 7 + 6 from rfl] at this
    omega
theorem cpl_rws (g : Good n ds) : Rws ds.length n 2 (ds.map row2) := ⟨List.length_map .., fun r hr => by
  obtain ⟨q, hq, rfl⟩ := List.mem_map.mp hr
  have := g.lt q hq
  refine ⟨Nat.le_refl _, fun i hi => ?_⟩
  simp only [row2, List.mem_cons, List.not_mem_nil, or_false] at hi
  rcases hi with rfl | rfl <;> omega⟩
theorem cpl_rows : ds.map cplD = (ds.map row2).map rowD := by rw [List.map_map]; rfl
theorem rows_dep (rs : List (List Int)) : (D.tup (rs.map rowD)).dep ≤ 2 := by
  show D.depL _ + 1 ≤ 2
  have : D.depL (rs.map rowD) ≤ 1 := depL_le.mpr fun d hd => by
    obtain ⟨r, hr, rfl⟩ := List.mem_map.mp hd
    exact rowD_dep r
  omega
/-- what the law compares first -/
def cmpA (n : Nat) (ds : List (Nat × Nat)) : List D := [.int (n : Int), .tup (ds.map cplD), .tup ((srtR n ds).map rowD), .tup ((srtR n ds).map fun r => .int ((r.length : Int) - 1))]
theorem shA (g : Good n ds) : Sh (.lst (cmpA n ds)) := by
  obtain ⟨a1, a2⟩ := shRows (cpl_rws g) g.n8
  obtain ⟨b1, b2⟩ := shRows g.srws g.n8
  rw [← cpl_rows] at a1 a2
  have c0 : ∀ r ∈ srtR n ds, r.length ≤ 129 := fun r hr => by have := (g.srws.row r hr).1; have := g.len; omega
  have cm : (D.tup ((srtR n ds).map fun r => D.int ((r.length : Int) - 1))) = rowD ((srtR n ds).map fun r => (r.length : Int) - 1) := by
    unfold rowD
    rw [List.map_map]
    rfl
  have c1 : shOk (rowD ((srtR n ds).map fun r => (r.length : Int) - 1)) = true ∧ shB (rowD ((srtR n ds).map fun r => (r.length : Int) - 1)) ≤ n * 7 + 4 := by
    refine ⟨shOkL_iff.mpr fun d hd => ?_, ?_⟩
    · obtain ⟨i, hi, rfl⟩ := List.mem_map.mp hd
      obtain ⟨r, hr, rfl⟩ := List.mem_map.mp hi
      have := c0 r hr
      exact shInt ⟨by omega, by omega⟩
    · show shBL (((srtR n ds).map fun r => (r.length : Int) - 1).map D.int) + 4 ≤ _
      have := shBL_le (c := 5) (l := ((srtR n ds).map fun r => (r.length : Int) - 1).map D.int) fun d hd => by
        obtain ⟨i, hi, rfl⟩ := List.mem_map.mp hd
        exact Nat.le_refl _
      rw [List.length_map, List.length_map, g.srws.len] at this
      omega
  rw [← cm] at c1
  have hn := g.n8
  have hl := g.len
  refine ⟨?_, ?_, ?_⟩
  · show (shOk (.int (n : Int)) && (shOk (.tup (ds.map cplD)) && (shOk (.tup ((srtR n ds).map rowD)) && (shOk (.tup ((srtR n ds).map fun r => .int ((r.length : Int) - 1))) && true)))) = true
    rw [a1, b1, c1.1, shInt ⟨by omega, by omega⟩]
    rfl
  · have d1 := rows_dep (ds.map row2)
    have d2 := rows_dep (srtR n ds)
    have d3 := rowD_dep ((srtR n ds).map fun r => (r.length : Int) - 1)
    rw [← cpl_rows] at d1
    rw [← cm] at d3
    show max 0 (max (D.tup (ds.map cplD)).dep (max (D.tup ((srtR n ds).map rowD)).dep (max (D.tup ((srtR n ds).map fun r => .int ((r.length : Int) - 1))).dep 0))) + 1 ≤ 60
    omega
  · have e : shB (.lst (cmpA n ds)) = 5 + 2 + (shB (.tup (ds.map cplD)) + 2 + (shB (.tup ((srtR n ds).map rowD)) + 2 + (shB (.tup ((srtR n ds).map fun r => .int ((r.length : Int) - 1))) + 2 + 0))) + 4 := rfl
    rw [e]
    have m1 : ds.length * (2 * 7 + 6) ≤ 64 * 20 := Nat.mul_le_mul hl (Nat.le_refl _)
    have m2 : n * ((1 + 2 * ds.length) * 7 + 6) ≤ 8 * 1000 := Nat.mul_le_mul hn (by omega)
    omega
def cmpB (n : Nat) (ds : List (Nat × Nat)) (a : Nat) : List D := [.int (a : Int), .str (nm a), rowD (rowAt n ds a)]
theorem rowAt_mem (g : Good n ds) {a : Nat} (ha : a < n) : rowAt n ds a ∈ srtR n ds := by
  obtain ⟨h, e⟩ := rowAt_eq g ha
  rw [← e]
  exact List.getElem_mem h
theorem nm_ok : ∀ a : Fin 8, shOk (.str (nm a.val)) = true ∧ (nm a.val).length = 1 := by decide +kernel
theorem shBv (g : Good n ds) {a : Nat} (ha : a < n) : Sh (.lst (cmpB n ds a)) := by
  have hn := g.n8
  have hl := g.len
  obtain ⟨b1, b2⟩ := shRow (c := 129) hn (g.srws.row _ (rowAt_mem g ha)).2 (by have := (g.srws.row _ (rowAt_mem g ha)).1; omega)
  obtain ⟨n1, n2⟩ := nm_ok ⟨a, by omega⟩
  dsimp only at n1 n2
  refine ⟨?_, ?_, ?_⟩
  · show (shOk (.int (a : Int)) && (shOk (.str (nm a)) && (shOk (rowD (rowAt n ds a)) && true))) = true
    rw [b1, n1, shInt ⟨by omega, by omega⟩]
    rfl
  · have := rowD_dep (rowAt n ds a)
    show max 0 (max 0 (max (rowD (rowAt n ds a)).dep 0)) + 1 ≤ 60
    omega
  · have e : shB (.lst (cmpB n ds a)) = 5 + 2 + ((10 * (nm a).length + 2) + 2 + (shB (rowD (rowAt n ds a)) + 2 + 0)) + 4 := rfl
    rw [e, n2]
    omega
def cmpC (n : Nat) (ds : List (Nat × Nat)) (a : Nat) : List D := (List.range n).map fun (b : Nat) => .bl (decide ((b : Int) ∈ rowAt n ds a))
theorem shC (hn : n ≤ 8) {a : Nat} : Sh (.lst (cmpC n ds a)) := by
  refine ⟨shOkL_iff.mpr fun d hd => ?_, ?_, ?_⟩
  · obtain ⟨i, hi, rfl⟩ := List.mem_map.mp hd
    rfl
  · show D.depL _ + 1 ≤ 60
    have : D.depL (cmpC n ds a) ≤ 0 := depL_le.mpr fun d hd => by
      obtain ⟨i, hi, rfl⟩ := List.mem_map.mp hd
      exact Nat.le_refl _
    omega
  · show shBL (cmpC n ds a) + 4 ≤ _
    have := shBL_le (c := 5) (l := cmpC n ds a) fun d hd => by
      obtain ⟨i, hi, rfl⟩ := List.mem_map.mp hd
      exact Nat.le_refl _
    have e : (cmpC n ds a).length = n := by unfold cmpC; rw [List.length_map, List.length_range]
    rw [e] at this
    omega
theorem ne_nothing {f g : Fl} : o2F .ne ⟨.tup [.str nothing_], f⟩ ⟨.tup [.str (Str.ofString "nothing")], g⟩ = some ⟨.bl false, .D⟩ := by kernel_rfl

structure Fns26 (Pf : Nat → Option Fn) : Prop where
  h0 : Pf 0 = some (.py d_is_number)
  h1 : Pf 1 = some (.py d_is_index)
  h2 : Pf 2 = some (.py d_is_name)
  h3 : Pf 3 = some (.py d_many_halls)
  h4 : Pf 4 = some (.py d_check_hall)
  h5 : Pf 5 = some (.py d_hall_number)
  h6 : Pf 6 = some (.py d_hall_name)
  h7 : Pf 7 = some (.py d_doors_by_number)
  h8 : Pf 8 = some (.py d_all_near)
  h9 : Pf 9 = some (.py d_near)
  h10 : Pf 10 = some (.py d_are_near)
  h11 : Pf 11 = some (.py d_door_counts)
  h13 : Pf 13 = some (.py d__law_take)
  h14 : Pf 14 = some (.py d__law_some)
  h15 : Pf 15 = some (.py d__law_alike)
  h16 : Pf 16 = some (.py d__law_pairs)
  h17 : Pf 17 = some (.py d__law_net)
  h18 : Pf 18 = some (.py d__law_net_by)
  h19 : Pf 19 = some (.py d__law_near)
  h20 : Pf 20 = some (.py d__law_whole_net)
  h21 : Pf 21 = some (.py d__law_known_net)
/-- the parts of the law's text -/
def forBody : S → SL
  | .for_ _ _ b => b
  | _ => .nil
def hd1 : SL → S
  | .cons s _ => s
  | .nil => .pas
def tl1 : SL → SL
  | .cons _ r => r
  | .nil => .nil
def lap26 : SL := forBody (hd1 Tk26.r_law)
section
variable {Pf : Nat → Option Fn} {W k : Nat} {B : Bag} (F : Fns26 Pf)
include F
/-- a hall's turn -/
theorem hall26 (g : Good n ds) {δ : Env} {a : Nat} (ha : a < n) (hδ : ∃ a0 a2, δ = [a0, some (.S, .bag), a2, some (.S, netD n ds), some (.S, namesD n), some (.S, doorsD ds), some (.D, .lst ((srtR n ds).map rowD)), none, some (.S, .tup (ds.map cplD)), none, none, some (.S, .int (a : Int)), some (.S, .str (nm a)), none]) :
    exL (callN Pf W (k + 6)) W (forBody (hd1 (tl1 (tl1 (tl1 (tl1 (tl1 lap26))))))) [] δ B = .nx δ B := by
  obtain ⟨a0, a2, rfl⟩ := hδ
  have c1 : callR (callN Pf W (k + 6)) 5 [⟨netD n ds, .D⟩, ⟨.str (nm a), .D⟩] B = .ok ⟨.int (a : Int), .D⟩ B := callR_flat (sp_hall_number (k := k + 4) F.h2 F.h5 g.n8 ha) rfl
  have c2 : callR (callN Pf W (k + 6)) 6 [⟨netD n ds, .D⟩, ⟨.int (a : Int), .D⟩] B = .ok ⟨.str (nm a), .D⟩ B := callR_flat (sp_hall_name (k := k + 2) F.h0 F.h1 F.h4 F.h6 g.n8 ha) rfl
  have c3 : callR (callN Pf W (k + 6)) 9 [⟨netD n ds, .D⟩, ⟨.int (a : Int), .D⟩] B = .ok ⟨rowD (rowAt n ds a), .D⟩ B := callR_flat (sp_near (k := k + 2) F.h0 F.h1 F.h4 F.h7 F.h8 F.h9 g ha) (rowD_flat _)
  have c4 : callR (callN Pf W (k + 6)) 15 [⟨.lst [.int (a : Int), .str (nm a), rowD (rowAt n ds a)], .D⟩, ⟨.lst [.int (a : Int), .str (nm a), rowD (rowAt n ds a)], .D⟩] B = .ok ⟨.bl true, .D⟩ B := callR_flat (sp_alike (k := k + 5) F.h15 (shBv g ha)) rfl
  have c5 : callR (callN Pf W (k + 6)) 15 [⟨.lst (cmpC n ds a), .D⟩, ⟨.lst (cmpC n ds a), .D⟩] B = .ok ⟨.bl true, .D⟩ B := callR_flat (sp_alike (k := k + 5) F.h15 (shC g.n8)) rfl
  obtain ⟨hr, er⟩ := rowAt_eq g ha
  have i := ix_rowsL (f := .BD) hr
  rw [er] at i
  have s1 : exS (callN Pf W (k + 6)) W (hd1 (forBody (hd1 (tl1 (tl1 (tl1 (tl1 (tl1 lap26)))))))) [] [a0, some (.S, .bag), a2, some (.S, netD n ds), some (.S, namesD n), some (.S, doorsD ds), some (.D, .lst ((srtR n ds).map rowD)), none, some (.S, .tup (ds.map cplD)), none, none, some (.S, .int (a : Int)), some (.S, .str (nm a)), none] B
      = .nx [a0, some (.S, .bag), a2, some (.S, netD n ds), some (.S, namesD n), some (.S, doorsD ds), some (.D, .lst ((srtR n ds).map rowD)), none, some (.S, .tup (ds.map cplD)), none, none, some (.S, .int (a : Int)), some (.S, .str (nm a)), none] B := by
    simp only [exL_nil, exL_cons, exS, evq_v, evq_k, evq_gc, evq_tup, evq_lst, evq_o2, evq_ch, evq_neg, evq_nt, evq_an, evq_or, evq_ife, evq_ix, evq_sl, evq_call, evq_bi, evq_isi, evq_me, evq_bg, evq_heard, evq_comp, evq_dcomp, evL, evO, evS, evG, evC, evAn, evOr, slot, get_0, get_s, put_0, put_s, wipe_nil, wipe_cons, List.set_cons_zero, List.set_cons_succ, freeze, freeze1, occ, occL, occO, occS, occG, occS2, List.foldl_nil, List.foldl_cons, List.append_nil, List.nil_append, List.cons_append, List.map_cons, List.map_nil, List.replicate_succ, List.replicate_zero, ofRes_ok, ofRes_exc, ok_bind, exc_bind, opt_some, outR_ret, outR_nx, outR_exc, asT_f, asT_t, flat_tup, flat_pr, flat_lst, flat_dct, flat_int, flat_str, flat_bl, flat_non, flat_bag, flatL_nil, flatL_cons, Bool.and_true, Bool.true_and, Bool.and_false, Bool.false_and, if_true, if_false, ite_true, ite_false, Bool.false_eq_true, List.contains_nil, Nat.reduceSub, Nat.reduceAdd, Nat.reduceEqDiff, lent_D, lent_R, lent_S, lent_BR, lent_BD, fU0, fL0, fU1, fL1, fU2, fL2, fU3, fL3, fU4, fL4, fU5, fL5, fU6, fL6, fU7, fL7, fU8, fL8, kids_lst, kids_tup, asgTg, asgL, mdOf, bRes, truth, lap26, Tk26.r_law, forBody, hd1, tl1, netD_flat, c1, c2, c3, i, c4, Bool.not_true]
  have s2 : exS (callN Pf W (k + 6)) W (hd1 (tl1 (forBody (hd1 (tl1 (tl1 (tl1 (tl1 (tl1 lap26))))))))) [] [a0, some (.S, .bag), a2, some (.S, netD n ds), some (.S, namesD n), some (.S, doorsD ds), some (.D, .lst ((srtR n ds).map rowD)), none, some (.S, .tup (ds.map cplD)), none, none, some (.S, .int (a : Int)), some (.S, .str (nm a)), none] B
      = .nx [a0, some (.S, .bag), a2, some (.S, netD n ds), some (.S, namesD n), some (.S, doorsD ds), some (.D, .lst ((srtR n ds).map rowD)), none, some (.S, .tup (ds.map cplD)), none, none, some (.S, .int (a : Int)), some (.S, .str (nm a)), none] B := by
    simp only [exL_nil, exL_cons, exS, evq_v, evq_k, evq_gc, evq_tup, evq_lst, evq_o2, evq_ch, evq_neg, evq_nt, evq_an, evq_or, evq_ife, evq_ix, evq_sl, evq_call, evq_bi, evq_isi, evq_me, evq_bg, evq_heard, evq_comp, evq_dcomp, evL, evO, evS, evG, evC, evAn, evOr, slot, get_0, get_s, put_0, put_s, wipe_nil, wipe_cons, List.set_cons_zero, List.set_cons_succ, freeze, freeze1, occ, occL, occO, occS, occG, occS2, List.foldl_nil, List.foldl_cons, List.append_nil, List.nil_append, List.cons_append, List.map_cons, List.map_nil, List.replicate_succ, List.replicate_zero, ofRes_ok, ofRes_exc, ok_bind, exc_bind, opt_some, outR_ret, outR_nx, outR_exc, asT_f, asT_t, flat_tup, flat_pr, flat_lst, flat_dct, flat_int, flat_str, flat_bl, flat_non, flat_bag, flatL_nil, flatL_cons, Bool.and_true, Bool.true_and, Bool.and_false, Bool.false_and, if_true, if_false, ite_true, ite_false, Bool.false_eq_true, List.contains_nil, Nat.reduceSub, Nat.reduceAdd, Nat.reduceEqDiff, lent_D, lent_R, lent_S, lent_BR, lent_BD, fU0, fL0, fU1, fL1, fU2, fL2, fU3, fL3, fU4, fL4, fU5, fL5, fU6, fL6, fU7, fL7, fU8, fL8, kids_lst, kids_tup, asgTg, asgL, mdOf, bRes, truth, lap26, Tk26.r_law, forBody, hd1, tl1, netD_flat, namesD_flat, len_names g.n8, rng_n g.n8]
    rw [comp_D (g := fun (b : Nat) => .bl (decide ((b : Int) ∈ rowAt n ds a))) (by rw [List.length_range]; have := g.n8; omega)]
    · simp only [exL_nil, exL_cons, exS, evq_v, evq_k, evq_gc, evq_tup, evq_lst, evq_o2, evq_ch, evq_neg, evq_nt, evq_an, evq_or, evq_ife, evq_ix, evq_sl, evq_call, evq_bi, evq_isi, evq_me, evq_bg, evq_heard, evq_comp, evq_dcomp, evL, evO, evS, evG, evC, evAn, evOr, slot, get_0, get_s, put_0, put_s, wipe_nil, wipe_cons, List.set_cons_zero, List.set_cons_succ, freeze, freeze1, occ, occL, occO, occS, occG, occS2, List.foldl_nil, List.foldl_cons, List.append_nil, List.nil_append, List.cons_append, List.map_cons, List.map_nil, List.replicate_succ, List.replicate_zero, ofRes_ok, ofRes_exc, ok_bind, exc_bind, opt_some, outR_ret, outR_nx, outR_exc, asT_f, asT_t, flat_tup, flat_pr, flat_lst, flat_dct, flat_int, flat_str, flat_bl, flat_non, flat_bag, flatL_nil, flatL_cons, Bool.and_true, Bool.true_and, Bool.and_false, Bool.false_and, if_true, if_false, ite_true, ite_false, Bool.false_eq_true, List.contains_nil, Nat.reduceSub, Nat.reduceAdd, Nat.reduceEqDiff, lent_D, lent_R, lent_S, lent_BR, lent_BD, fU0, fL0, fU1, fL1, fU2, fL2, fU3, fL3, fU4, fL4, fU5, fL5, fU6, fL6, fU7, fL7, fU8, fL8, kids_lst, kids_tup, asgTg, asgL, mdOf, bRes, truth, namesD_flat, len_names g.n8, rng_n g.n8]
      rw [comp_D (g := fun (b : Nat) => .bl (decide ((b : Int) ∈ rowAt n ds a))) (by rw [List.length_range]; have := g.n8; omega)]
      · rw [show ((List.range n).map fun (b : Nat) => D.bl (decide ((b : Int) ∈ rowAt n ds a))) = cmpC n ds a from rfl]
        simp only [exL_nil, exL_cons, exS, evq_v, evq_k, evq_gc, evq_tup, evq_lst, evq_o2, evq_ch, evq_neg, evq_nt, evq_an, evq_or, evq_ife, evq_ix, evq_sl, evq_call, evq_bi, evq_isi, evq_me, evq_bg, evq_heard, evq_comp, evq_dcomp, evL, evO, evS, evG, evC, evAn, evOr, slot, get_0, get_s, put_0, put_s, wipe_nil, wipe_cons, List.set_cons_zero, List.set_cons_succ, freeze, freeze1, occ, occL, occO, occS, occG, occS2, List.foldl_nil, List.foldl_cons, List.append_nil, List.nil_append, List.cons_append, List.map_cons, List.map_nil, List.replicate_succ, List.replicate_zero, ofRes_ok, ofRes_exc, ok_bind, exc_bind, opt_some, outR_ret, outR_nx, outR_exc, asT_f, asT_t, flat_tup, flat_pr, flat_lst, flat_dct, flat_int, flat_str, flat_bl, flat_non, flat_bag, flatL_nil, flatL_cons, Bool.and_true, Bool.true_and, Bool.and_false, Bool.false_and, if_true, if_false, ite_true, ite_false, Bool.false_eq_true, List.contains_nil, Nat.reduceSub, Nat.reduceAdd, Nat.reduceEqDiff, lent_D, lent_R, lent_S, lent_BR, lent_BD, fU0, fL0, fU1, fL1, fU2, fL2, fU3, fL3, fU4, fL4, fU5, fL5, fU6, fL6, fU7, fL7, fU8, fL8, kids_lst, kids_tup, asgTg, asgL, mdOf, bRes, truth, c5, Bool.not_true]
      · intro b hb
        have hb := List.mem_range.mp hb
        have z : (0 : Int) + (b : Int) = (b : Int) := by omega
        simp only [exL_nil, exL_cons, exS, evq_v, evq_k, evq_gc, evq_tup, evq_lst, evq_o2, evq_ch, evq_neg, evq_nt, evq_an, evq_or, evq_ife, evq_ix, evq_sl, evq_call, evq_bi, evq_isi, evq_me, evq_bg, evq_heard, evq_comp, evq_dcomp, evL, evO, evS, evG, evC, evAn, evOr, slot, get_0, get_s, put_0, put_s, wipe_nil, wipe_cons, List.set_cons_zero, List.set_cons_succ, freeze, freeze1, occ, occL, occO, occS, occG, occS2, List.foldl_nil, List.foldl_cons, List.append_nil, List.nil_append, List.cons_append, List.map_cons, List.map_nil, List.replicate_succ, List.replicate_zero, ofRes_ok, ofRes_exc, ok_bind, exc_bind, opt_some, outR_ret, outR_nx, outR_exc, asT_f, asT_t, flat_tup, flat_pr, flat_lst, flat_dct, flat_int, flat_str, flat_bl, flat_non, flat_bag, flatL_nil, flatL_cons, Bool.and_true, Bool.true_and, Bool.and_false, Bool.false_and, if_true, if_false, ite_true, ite_false, Bool.false_eq_true, List.contains_nil, Nat.reduceSub, Nat.reduceAdd, Nat.reduceEqDiff, lent_D, lent_R, lent_S, lent_BR, lent_BD, fU0, fL0, fU1, fL1, fU2, fL2, fU3, fL3, fU4, fL4, fU5, fL5, fU6, fL6, fU7, fL7, fU8, fL8, kids_lst, kids_tup, asgTg, asgL, mdOf, bRes, truth, turn, z, i, in_row]
    · intro b hb
      have hb := List.mem_range.mp hb
      have z : (0 : Int) + (b : Int) = (b : Int) := by omega
      have c : callR (callN Pf W (k + 6)) 10 [⟨netD n ds, .D⟩, ⟨.int (a : Int), .D⟩, ⟨.int (b : Int), .D⟩] B = .ok ⟨.bl (decide ((b : Int) ∈ rowAt n ds a)), .D⟩ B := callR_flat (sp_are_near (k := k + 1) F.h0 F.h1 F.h4 F.h7 F.h8 F.h9 F.h10 g ha hb) rfl
      simp only [exL_nil, exL_cons, exS, evq_v, evq_k, evq_gc, evq_tup, evq_lst, evq_o2, evq_ch, evq_neg, evq_nt, evq_an, evq_or, evq_ife, evq_ix, evq_sl, evq_call, evq_bi, evq_isi, evq_me, evq_bg, evq_heard, evq_comp, evq_dcomp, evL, evO, evS, evG, evC, evAn, evOr, slot, get_0, get_s, put_0, put_s, wipe_nil, wipe_cons, List.set_cons_zero, List.set_cons_succ, freeze, freeze1, occ, occL, occO, occS, occG, occS2, List.foldl_nil, List.foldl_cons, List.append_nil, List.nil_append, List.cons_append, List.map_cons, List.map_nil, List.replicate_succ, List.replicate_zero, ofRes_ok, ofRes_exc, ok_bind, exc_bind, opt_some, outR_ret, outR_nx, outR_exc, asT_f, asT_t, flat_tup, flat_pr, flat_lst, flat_dct, flat_int, flat_str, flat_bl, flat_non, flat_bag, flatL_nil, flatL_cons, Bool.and_true, Bool.true_and, Bool.and_false, Bool.false_and, if_true, if_false, ite_true, ite_false, Bool.false_eq_true, List.contains_nil, Nat.reduceSub, Nat.reduceAdd, Nat.reduceEqDiff, lent_D, lent_R, lent_S, lent_BR, lent_BD, fU0, fL0, fU1, fL1, fU2, fL2, fU3, fL3, fU4, fL4, fU5, fL5, fU6, fL6, fU7, fL7, fU8, fL8, kids_lst, kids_tup, asgTg, asgL, mdOf, bRes, truth, turn, z, netD_flat, c]
  show exL _ _ (.cons (hd1 (forBody (hd1 (tl1 (tl1 (tl1 (tl1 (tl1 lap26)))))))) (.cons (hd1 (tl1 (forBody (hd1 (tl1 (tl1 (tl1 (tl1 (tl1 lap26))))))))) .nil)) _ _ _ = _
  rw [peel s1, peel s2]
  rfl

/-- a lap -/
theorem lap_26 {δ : Env} (hδ : E1 δ) (hB : BOk B) : NxTo (exL (callN Pf W (k + 6)) W lap26 [] δ B) fun δ B => E1 δ ∧ BOk B := by
  obtain ⟨a0, a2, a3, a4, a5, a6, a8, a11, a12, rfl⟩ := hδ
  obtain ⟨⟨rd, rf⟩, B1, e1, hN, hf, hB1⟩ := sp_known_net (k := k + 3) (W := W) F.h13 F.h16 F.h17 F.h18 F.h20 F.h21 hB
  obtain ⟨n, ds, g, hn6, rfl⟩ := hN
  have hf : rf = .D := hf
  subst hf
  have c1 : callR (callN Pf W (k + 6)) 21 [⟨.bag, .D⟩] B = .ok ⟨netD n ds, .D⟩ B1 := callR_D e1
  show NxTo (exL _ _ (.cons (hd1 lap26) (.cons (hd1 (tl1 lap26)) (.cons (hd1 (tl1 (tl1 lap26))) (.cons (hd1 (tl1 (tl1 (tl1 lap26)))) (.cons (hd1 (tl1 (tl1 (tl1 (tl1 lap26))))) (.cons (hd1 (tl1 (tl1 (tl1 (tl1 (tl1 lap26)))))) (.cons (hd1 (tl1 (tl1 (tl1 (tl1 (tl1 (tl1 lap26))))))) .nil))))))) _ _ _) _
  have s1 : exS (callN Pf W (k + 6)) W (hd1 lap26) [] [a0, some (.S, .bag), a2, a3, a4, a5, a6, none, a8, none, none, a11, a12, none] B = .nx [a0, some (.S, .bag), a2, some (.S, netD n ds), a4, a5, a6, none, a8, none, none, a11, a12, none] B1 := by
    simp only [exL_nil, exL_cons, exS, evq_v, evq_k, evq_gc, evq_tup, evq_lst, evq_o2, evq_ch, evq_neg, evq_nt, evq_an, evq_or, evq_ife, evq_ix, evq_sl, evq_call, evq_bi, evq_isi, evq_me, evq_bg, evq_heard, evq_comp, evq_dcomp, evL, evO, evS, evG, evC, evAn, evOr, slot, get_0, get_s, put_0, put_s, wipe_nil, wipe_cons, List.set_cons_zero, List.set_cons_succ, freeze, freeze1, occ, occL, occO, occS, occG, occS2, List.foldl_nil, List.foldl_cons, List.append_nil, List.nil_append, List.cons_append, List.map_cons, List.map_nil, List.replicate_succ, List.replicate_zero, ofRes_ok, ofRes_exc, ok_bind, exc_bind, opt_some, outR_ret, outR_nx, outR_exc, asT_f, asT_t, flat_tup, flat_pr, flat_lst, flat_dct, flat_int, flat_str, flat_bl, flat_non, flat_bag, flatL_nil, flatL_cons, Bool.and_true, Bool.true_and, Bool.and_false, Bool.false_and, if_true, if_false, ite_true, ite_false, Bool.false_eq_true, List.contains_nil, Nat.reduceSub, Nat.reduceAdd, Nat.reduceEqDiff, lent_D, lent_R, lent_S, lent_BR, lent_BD, fU0, fL0, fU1, fL1, fU2, fL2, fU3, fL3, fU4, fL4, fU5, fL5, fU6, fL6, fU7, fL7, fU8, fL8, kids_lst, kids_tup, asgTg, asgL, mdOf, bRes, truth, lap26, Tk26.r_law, forBody, hd1, tl1, c1, netD_flat]
  have s2 : exS (callN Pf W (k + 6)) W (hd1 (tl1 lap26)) [] [a0, some (.S, .bag), a2, some (.S, netD n ds), a4, a5, a6, none, a8, none, none, a11, a12, none] B1 = .nx [a0, some (.S, .bag), a2, some (.S, netD n ds), some (.S, namesD n), some (.S, doorsD ds), a6, none, a8, none, none, a11, a12, none] B1 := by
    have e : netD n ds = .tup [namesD n, doorsD ds] := rfl
    simp only [exL_nil, exL_cons, exS, evq_v, evq_k, evq_gc, evq_tup, evq_lst, evq_o2, evq_ch, evq_neg, evq_nt, evq_an, evq_or, evq_ife, evq_ix, evq_sl, evq_call, evq_bi, evq_isi, evq_me, evq_bg, evq_heard, evq_comp, evq_dcomp, evL, evO, evS, evG, evC, evAn, evOr, slot, get_0, get_s, put_0, put_s, wipe_nil, wipe_cons, List.set_cons_zero, List.set_cons_succ, freeze, freeze1, occ, occL, occO, occS, occG, occS2, List.foldl_nil, List.foldl_cons, List.append_nil, List.nil_append, List.cons_append, List.map_cons, List.map_nil, List.replicate_succ, List.replicate_zero, ofRes_ok, ofRes_exc, ok_bind, exc_bind, opt_some, outR_ret, outR_nx, outR_exc, asT_f, asT_t, flat_tup, flat_pr, flat_lst, flat_dct, flat_int, flat_str, flat_bl, flat_non, flat_bag, flatL_nil, flatL_cons, Bool.and_true, Bool.true_and, Bool.and_false, Bool.false_and, if_true, if_false, ite_true, ite_false, Bool.false_eq_true, List.contains_nil, Nat.reduceSub, Nat.reduceAdd, Nat.reduceEqDiff, lent_D, lent_R, lent_S, lent_BR, lent_BD, fU0, fL0, fU1, fL1, fU2, fL2, fU3, fL3, fU4, fL4, fU5, fL5, fU6, fL6, fU7, fL7, fU8, fL8, kids_lst, kids_tup, asgTg, asgL, mdOf, bRes, truth, lap26, Tk26.r_law, forBody, hd1, tl1]
    rw [e]
    simp only [exL_nil, exL_cons, exS, evq_v, evq_k, evq_gc, evq_tup, evq_lst, evq_o2, evq_ch, evq_neg, evq_nt, evq_an, evq_or, evq_ife, evq_ix, evq_sl, evq_call, evq_bi, evq_isi, evq_me, evq_bg, evq_heard, evq_comp, evq_dcomp, evL, evO, evS, evG, evC, evAn, evOr, slot, get_0, get_s, put_0, put_s, wipe_nil, wipe_cons, List.set_cons_zero, List.set_cons_succ, freeze, freeze1, occ, occL, occO, occS, occG, occS2, List.foldl_nil, List.foldl_cons, List.append_nil, List.nil_append, List.cons_append, List.map_cons, List.map_nil, List.replicate_succ, List.replicate_zero, ofRes_ok, ofRes_exc, ok_bind, exc_bind, opt_some, outR_ret, outR_nx, outR_exc, asT_f, asT_t, flat_tup, flat_pr, flat_lst, flat_dct, flat_int, flat_str, flat_bl, flat_non, flat_bag, flatL_nil, flatL_cons, Bool.and_true, Bool.true_and, Bool.and_false, Bool.false_and, if_true, if_false, ite_true, ite_false, Bool.false_eq_true, List.contains_nil, Nat.reduceSub, Nat.reduceAdd, Nat.reduceEqDiff, lent_D, lent_R, lent_S, lent_BR, lent_BD, fU0, fL0, fU1, fL1, fU2, fL2, fU3, fL3, fU4, fL4, fU5, fL5, fU6, fL6, fU7, fL7, fU8, fL8, kids_lst, kids_tup, asgTg, asgL, mdOf, bRes, truth, namesD_flat, doorsD_flat]
  have c3 : callR (callN Pf W (k + 6)) 19 [⟨netD n ds, .D⟩] B1 = .ok ⟨.lst (rowsD (srtR n ds)), .D⟩ B1 := callR_D (sp_law_near (k := k + 5) F.h19 g)
  have s3 : exS (callN Pf W (k + 6)) W (hd1 (tl1 (tl1 lap26))) [] [a0, some (.S, .bag), a2, some (.S, netD n ds), some (.S, namesD n), some (.S, doorsD ds), a6, none, a8, none, none, a11, a12, none] B1 = .nx [a0, some (.S, .bag), a2, some (.S, netD n ds), some (.S, namesD n), some (.S, doorsD ds), some (.D, .lst ((srtR n ds).map rowD)), none, a8, none, none, a11, a12, none] B1 := by
    simp only [exL_nil, exL_cons, exS, evq_v, evq_k, evq_gc, evq_tup, evq_lst, evq_o2, evq_ch, evq_neg, evq_nt, evq_an, evq_or, evq_ife, evq_ix, evq_sl, evq_call, evq_bi, evq_isi, evq_me, evq_bg, evq_heard, evq_comp, evq_dcomp, evL, evO, evS, evG, evC, evAn, evOr, slot, get_0, get_s, put_0, put_s, wipe_nil, wipe_cons, List.set_cons_zero, List.set_cons_succ, freeze, freeze1, occ, occL, occO, occS, occG, occS2, List.foldl_nil, List.foldl_cons, List.append_nil, List.nil_append, List.cons_append, List.map_cons, List.map_nil, List.replicate_succ, List.replicate_zero, ofRes_ok, ofRes_exc, ok_bind, exc_bind, opt_some, outR_ret, outR_nx, outR_exc, asT_f, asT_t, flat_tup, flat_pr, flat_lst, flat_dct, flat_int, flat_str, flat_bl, flat_non, flat_bag, flatL_nil, flatL_cons, Bool.and_true, Bool.true_and, Bool.and_false, Bool.false_and, if_true, if_false, ite_true, ite_false, Bool.false_eq_true, List.contains_nil, Nat.reduceSub, Nat.reduceAdd, Nat.reduceEqDiff, lent_D, lent_R, lent_S, lent_BR, lent_BD, fU0, fL0, fU1, fL1, fU2, fL2, fU3, fL3, fU4, fL4, fU5, fL5, fU6, fL6, fU7, fL7, fU8, fL8, kids_lst, kids_tup, asgTg, asgL, mdOf, bRes, truth, lap26, Tk26.r_law, forBody, hd1, tl1, netD_flat, c3, itemsW_D]
    rw [show rowsD (srtR n ds) = (srtR n ds).map intsD from rfl, comp_D (g := rowD) (by rw [g.srws.len]; have := g.n8; omega)]
    · simp only [exL_nil, exL_cons, exS, evq_v, evq_k, evq_gc, evq_tup, evq_lst, evq_o2, evq_ch, evq_neg, evq_nt, evq_an, evq_or, evq_ife, evq_ix, evq_sl, evq_call, evq_bi, evq_isi, evq_me, evq_bg, evq_heard, evq_comp, evq_dcomp, evL, evO, evS, evG, evC, evAn, evOr, slot, get_0, get_s, put_0, put_s, wipe_nil, wipe_cons, List.set_cons_zero, List.set_cons_succ, freeze, freeze1, occ, occL, occO, occS, occG, occS2, List.foldl_nil, List.foldl_cons, List.append_nil, List.nil_append, List.cons_append, List.map_cons, List.map_nil, List.replicate_succ, List.replicate_zero, ofRes_ok, ofRes_exc, ok_bind, exc_bind, opt_some, outR_ret, outR_nx, outR_exc, asT_f, asT_t, flat_tup, flat_pr, flat_lst, flat_dct, flat_int, flat_str, flat_bl, flat_non, flat_bag, flatL_nil, flatL_cons, Bool.and_true, Bool.true_and, Bool.and_false, Bool.false_and, if_true, if_false, ite_true, ite_false, Bool.false_eq_true, List.contains_nil, Nat.reduceSub, Nat.reduceAdd, Nat.reduceEqDiff, lent_D, lent_R, lent_S, lent_BR, lent_BD, fU0, fL0, fU1, fL1, fU2, fL2, fU3, fL3, fU4, fL4, fU5, fL5, fU6, fL6, fU7, fL7, fU8, fL8, kids_lst, kids_tup, asgTg, asgL, mdOf, bRes, truth, flat_lst]
    · intro r hr
      simp only [exL_nil, exL_cons, exS, evq_v, evq_k, evq_gc, evq_tup, evq_lst, evq_o2, evq_ch, evq_neg, evq_nt, evq_an, evq_or, evq_ife, evq_ix, evq_sl, evq_call, evq_bi, evq_isi, evq_me, evq_bg, evq_heard, evq_comp, evq_dcomp, evL, evO, evS, evG, evC, evAn, evOr, slot, get_0, get_s, put_0, put_s, wipe_nil, wipe_cons, List.set_cons_zero, List.set_cons_succ, freeze, freeze1, occ, occL, occO, occS, occG, occS2, List.foldl_nil, List.foldl_cons, List.append_nil, List.nil_append, List.cons_append, List.map_cons, List.map_nil, List.replicate_succ, List.replicate_zero, ofRes_ok, ofRes_exc, ok_bind, exc_bind, opt_some, outR_ret, outR_nx, outR_exc, asT_f, asT_t, flat_tup, flat_pr, flat_lst, flat_dct, flat_int, flat_str, flat_bl, flat_non, flat_bag, flatL_nil, flatL_cons, Bool.and_true, Bool.true_and, Bool.and_false, Bool.false_and, if_true, if_false, ite_true, ite_false, Bool.false_eq_true, List.contains_nil, Nat.reduceSub, Nat.reduceAdd, Nat.reduceEqDiff, lent_D, lent_R, lent_S, lent_BR, lent_BD, fU0, fL0, fU1, fL1, fU2, fL2, fU3, fL3, fU4, fL4, fU5, fL5, fU6, fL6, fU7, fL7, fU8, fL8, kids_lst, kids_tup, asgTg, asgL, mdOf, bRes, truth, turn, intsD, tuple_flat (intsFlat r), intsFlat r]
      rfl
  have s4 : exS (callN Pf W (k + 6)) W (hd1 (tl1 (tl1 (tl1 lap26)))) [] [a0, some (.S, .bag), a2, some (.S, netD n ds), some (.S, namesD n), some (.S, doorsD ds), some (.D, .lst ((srtR n ds).map rowD)), none, a8, none, none, a11, a12, none] B1
      = .nx [a0, some (.S, .bag), a2, some (.S, netD n ds), some (.S, namesD n), some (.S, doorsD ds), some (.D, .lst ((srtR n ds).map rowD)), none, some (.S, .tup (ds.map cplD)), none, none, a11, a12, none] B1 := by
    have so := bi_sort_rows (l := ds.map row2) (f := .D) (by rw [List.length_map]; have := g.len; omega) (fun r hr => by obtain ⟨q, _, rfl⟩ := List.mem_map.mp hr; simp [row2]) g.ord
    rw [← cpl_rows] at so
    simp only [exL_nil, exL_cons, exS, evq_v, evq_k, evq_gc, evq_tup, evq_lst, evq_o2, evq_ch, evq_neg, evq_nt, evq_an, evq_or, evq_ife, evq_ix, evq_sl, evq_call, evq_bi, evq_isi, evq_me, evq_bg, evq_heard, evq_comp, evq_dcomp, evL, evO, evS, evG, evC, evAn, evOr, slot, get_0, get_s, put_0, put_s, wipe_nil, wipe_cons, List.set_cons_zero, List.set_cons_succ, freeze, freeze1, occ, occL, occO, occS, occG, occS2, List.foldl_nil, List.foldl_cons, List.append_nil, List.nil_append, List.cons_append, List.map_cons, List.map_nil, List.replicate_succ, List.replicate_zero, ofRes_ok, ofRes_exc, ok_bind, exc_bind, opt_some, outR_ret, outR_nx, outR_exc, asT_f, asT_t, flat_tup, flat_pr, flat_lst, flat_dct, flat_int, flat_str, flat_bl, flat_non, flat_bag, flatL_nil, flatL_cons, Bool.and_true, Bool.true_and, Bool.and_false, Bool.false_and, if_true, if_false, ite_true, ite_false, Bool.false_eq_true, List.contains_nil, Nat.reduceSub, Nat.reduceAdd, Nat.reduceEqDiff, lent_D, lent_R, lent_S, lent_BR, lent_BD, fU0, fL0, fU1, fL1, fU2, fL2, fU3, fL3, fU4, fL4, fU5, fL5, fU6, fL6, fU7, fL7, fU8, fL8, kids_lst, kids_tup, asgTg, asgL, mdOf, bRes, truth, lap26, Tk26.r_law, forBody, hd1, tl1, doorsD_flat, namesD_flat, itemsW_doors]
    rw [comp_D (h := doorD) (g := cplD) (by have := g.len; omega)]
    · simp only [exL_nil, exL_cons, exS, evq_v, evq_k, evq_gc, evq_tup, evq_lst, evq_o2, evq_ch, evq_neg, evq_nt, evq_an, evq_or, evq_ife, evq_ix, evq_sl, evq_call, evq_bi, evq_isi, evq_me, evq_bg, evq_heard, evq_comp, evq_dcomp, evL, evO, evS, evG, evC, evAn, evOr, slot, get_0, get_s, put_0, put_s, wipe_nil, wipe_cons, List.set_cons_zero, List.set_cons_succ, freeze, freeze1, occ, occL, occO, occS, occG, occS2, List.foldl_nil, List.foldl_cons, List.append_nil, List.nil_append, List.cons_append, List.map_cons, List.map_nil, List.replicate_succ, List.replicate_zero, ofRes_ok, ofRes_exc, ok_bind, exc_bind, opt_some, outR_ret, outR_nx, outR_exc, asT_f, asT_t, flat_tup, flat_pr, flat_lst, flat_dct, flat_int, flat_str, flat_bl, flat_non, flat_bag, flatL_nil, flatL_cons, Bool.and_true, Bool.true_and, Bool.and_false, Bool.false_and, if_true, if_false, ite_true, ite_false, Bool.false_eq_true, List.contains_nil, Nat.reduceSub, Nat.reduceAdd, Nat.reduceEqDiff, lent_D, lent_R, lent_S, lent_BR, lent_BD, fU0, fL0, fU1, fL1, fU2, fL2, fU3, fL3, fU4, fL4, fU5, fL5, fU6, fL6, fU7, fL7, fU8, fL8, kids_lst, kids_tup, asgTg, asgL, mdOf, bRes, truth, so, tuple_flat (cpl_flat ds), cpl_flat ds]
    · intro q hq
      obtain ⟨p1, p2⟩ := g.lt q hq
      simp only [exL_nil, exL_cons, exS, evq_v, evq_k, evq_gc, evq_tup, evq_lst, evq_o2, evq_ch, evq_neg, evq_nt, evq_an, evq_or, evq_ife, evq_ix, evq_sl, evq_call, evq_bi, evq_isi, evq_me, evq_bg, evq_heard, evq_comp, evq_dcomp, evL, evO, evS, evG, evC, evAn, evOr, slot, get_0, get_s, put_0, put_s, wipe_nil, wipe_cons, List.set_cons_zero, List.set_cons_succ, freeze, freeze1, occ, occL, occO, occS, occG, occS2, List.foldl_nil, List.foldl_cons, List.append_nil, List.nil_append, List.cons_append, List.map_cons, List.map_nil, List.replicate_succ, List.replicate_zero, ofRes_ok, ofRes_exc, ok_bind, exc_bind, opt_some, outR_ret, outR_nx, outR_exc, asT_f, asT_t, flat_tup, flat_pr, flat_lst, flat_dct, flat_int, flat_str, flat_bl, flat_non, flat_bag, flatL_nil, flatL_cons, Bool.and_true, Bool.true_and, Bool.and_false, Bool.false_and, if_true, if_false, ite_true, ite_false, Bool.false_eq_true, List.contains_nil, Nat.reduceSub, Nat.reduceAdd, Nat.reduceEqDiff, lent_D, lent_R, lent_S, lent_BR, lent_BD, fU0, fL0, fU1, fL1, fU2, fL2, fU3, fL3, fU4, fL4, fU5, fL5, fU6, fL6, fU7, fL7, fU8, fL8, kids_lst, kids_tup, asgTg, asgL, mdOf, bRes, truth, turn, doorD, namesD_flat, meOk_names, idx_names (f := .D) (g := .D) (Nat.lt_trans p1 p2) g.n8, idx_names (f := .D) (g := .D) p2 g.n8]
      rfl
  have s5 : exS (callN Pf W (k + 6)) W (hd1 (tl1 (tl1 (tl1 (tl1 lap26))))) [] [a0, some (.S, .bag), a2, some (.S, netD n ds), some (.S, namesD n), some (.S, doorsD ds), some (.D, .lst ((srtR n ds).map rowD)), none, some (.S, .tup (ds.map cplD)), none, none, a11, a12, none] B1
      = .nx [a0, some (.S, .bag), a2, some (.S, netD n ds), some (.S, namesD n), some (.S, doorsD ds), some (.D, .lst ((srtR n ds).map rowD)), none, some (.S, .tup (ds.map cplD)), none, none, a11, a12, none] B1 := by
    have d1 : callR (callN Pf W (k + 6)) 3 [⟨netD n ds, .D⟩] B1 = .ok ⟨.int (n : Int), .D⟩ B1 := callR_flat (sp_many_halls (k := k + 5) F.h3 g.n8) rfl
    have d2 : callR (callN Pf W (k + 6)) 7 [⟨netD n ds, .D⟩] B1 = .ok ⟨.tup (ds.map cplD), .D⟩ B1 := callR_flat (sp_doors (k := k + 5) F.h7 g) (cpl_flat ds)
    have d3 : callR (callN Pf W (k + 6)) 8 [⟨netD n ds, .D⟩] B1 = .ok ⟨.tup ((srtR n ds).map rowD), .D⟩ B1 := callR_flat (sp_all_near (k := k + 4) F.h7 F.h8 g) (rowDs_flat _)
    have fl : D.flatL ((srtR n ds).map fun r => D.int ((r.length : Int) - 1)) = true := flatL_iff.mpr fun d hd => by
      obtain ⟨i, _, rfl⟩ := List.mem_map.mp hd
      rfl
    have d4 : callR (callN Pf W (k + 6)) 11 [⟨netD n ds, .D⟩] B1 = .ok ⟨.tup ((srtR n ds).map fun r => .int ((r.length : Int) - 1)), .D⟩ B1 := callR_flat (sp_door_counts (k := k + 3) F.h7 F.h8 F.h11 g) fl
    have d5 : callR (callN Pf W (k + 6)) 15 [⟨.lst (cmpA n ds), .D⟩, ⟨.lst (cmpA n ds), .D⟩] B1 = .ok ⟨.bl true, .D⟩ B1 := callR_flat (sp_alike (k := k + 5) F.h15 (shA g)) rfl
    simp only [exL_nil, exL_cons, exS, evq_v, evq_k, evq_gc, evq_tup, evq_lst, evq_o2, evq_ch, evq_neg, evq_nt, evq_an, evq_or, evq_ife, evq_ix, evq_sl, evq_call, evq_bi, evq_isi, evq_me, evq_bg, evq_heard, evq_comp, evq_dcomp, evL, evO, evS, evG, evC, evAn, evOr, slot, get_0, get_s, put_0, put_s, wipe_nil, wipe_cons, List.set_cons_zero, List.set_cons_succ, freeze, freeze1, occ, occL, occO, occS, occG, occS2, List.foldl_nil, List.foldl_cons, List.append_nil, List.nil_append, List.cons_append, List.map_cons, List.map_nil, List.replicate_succ, List.replicate_zero, ofRes_ok, ofRes_exc, ok_bind, exc_bind, opt_some, outR_ret, outR_nx, outR_exc, asT_f, asT_t, flat_tup, flat_pr, flat_lst, flat_dct, flat_int, flat_str, flat_bl, flat_non, flat_bag, flatL_nil, flatL_cons, Bool.and_true, Bool.true_and, Bool.and_false, Bool.false_and, if_true, if_false, ite_true, ite_false, Bool.false_eq_true, List.contains_nil, Nat.reduceSub, Nat.reduceAdd, Nat.reduceEqDiff, lent_D, lent_R, lent_S, lent_BR, lent_BD, fU0, fL0, fU1, fL1, fU2, fL2, fU3, fL3, fU4, fL4, fU5, fL5, fU6, fL6, fU7, fL7, fU8, fL8, kids_lst, kids_tup, asgTg, asgL, mdOf, bRes, truth, lap26, Tk26.r_law, forBody, hd1, tl1, netD_flat, namesD_flat, d1, d2, d3, d4, len_names g.n8, cpl_flat ds, tuple_flat (rowDs_flat (srtR n ds)), itemsW_lst (rowDs_flat (srtR n ds))]
    rw [comp_D (h := rowD) (g := fun r => .int ((r.length : Int) - 1)) (by rw [g.srws.len]; have := g.n8; omega)]
    · simp only [exL_nil, exL_cons, exS, evq_v, evq_k, evq_gc, evq_tup, evq_lst, evq_o2, evq_ch, evq_neg, evq_nt, evq_an, evq_or, evq_ife, evq_ix, evq_sl, evq_call, evq_bi, evq_isi, evq_me, evq_bg, evq_heard, evq_comp, evq_dcomp, evL, evO, evS, evG, evC, evAn, evOr, slot, get_0, get_s, put_0, put_s, wipe_nil, wipe_cons, List.set_cons_zero, List.set_cons_succ, freeze, freeze1, occ, occL, occO, occS, occG, occS2, List.foldl_nil, List.foldl_cons, List.append_nil, List.nil_append, List.cons_append, List.map_cons, List.map_nil, List.replicate_succ, List.replicate_zero, ofRes_ok, ofRes_exc, ok_bind, exc_bind, opt_some, outR_ret, outR_nx, outR_exc, asT_f, asT_t, flat_tup, flat_pr, flat_lst, flat_dct, flat_int, flat_str, flat_bl, flat_non, flat_bag, flatL_nil, flatL_cons, Bool.and_true, Bool.true_and, Bool.and_false, Bool.false_and, if_true, if_false, ite_true, ite_false, Bool.false_eq_true, List.contains_nil, Nat.reduceSub, Nat.reduceAdd, Nat.reduceEqDiff, lent_D, lent_R, lent_S, lent_BR, lent_BD, fU0, fL0, fU1, fL1, fU2, fL2, fU3, fL3, fU4, fL4, fU5, fL5, fU6, fL6, fU7, fL7, fU8, fL8, kids_lst, kids_tup, asgTg, asgL, mdOf, bRes, truth, tuple_flat fl]
      rw [show [D.int (n : Int), .tup (ds.map cplD), .tup ((srtR n ds).map rowD), .tup ((srtR n ds).map fun r => .int ((r.length : Int) - 1))] = cmpA n ds from rfl]
      simp only [exL_nil, exL_cons, exS, evq_v, evq_k, evq_gc, evq_tup, evq_lst, evq_o2, evq_ch, evq_neg, evq_nt, evq_an, evq_or, evq_ife, evq_ix, evq_sl, evq_call, evq_bi, evq_isi, evq_me, evq_bg, evq_heard, evq_comp, evq_dcomp, evL, evO, evS, evG, evC, evAn, evOr, slot, get_0, get_s, put_0, put_s, wipe_nil, wipe_cons, List.set_cons_zero, List.set_cons_succ, freeze, freeze1, occ, occL, occO, occS, occG, occS2, List.foldl_nil, List.foldl_cons, List.append_nil, List.nil_append, List.cons_append, List.map_cons, List.map_nil, List.replicate_succ, List.replicate_zero, ofRes_ok, ofRes_exc, ok_bind, exc_bind, opt_some, outR_ret, outR_nx, outR_exc, asT_f, asT_t, flat_tup, flat_pr, flat_lst, flat_dct, flat_int, flat_str, flat_bl, flat_non, flat_bag, flatL_nil, flatL_cons, Bool.and_true, Bool.true_and, Bool.and_false, Bool.false_and, if_true, if_false, ite_true, ite_false, Bool.false_eq_true, List.contains_nil, Nat.reduceSub, Nat.reduceAdd, Nat.reduceEqDiff, lent_D, lent_R, lent_S, lent_BR, lent_BD, fU0, fL0, fU1, fL1, fU2, fL2, fU3, fL3, fU4, fL4, fU5, fL5, fU6, fL6, fU7, fL7, fU8, fL8, kids_lst, kids_tup, asgTg, asgL, mdOf, bRes, truth, d5, Bool.not_true]
    · intro r hr
      have hl : biF .len [⟨rowD r, .D⟩] = some ⟨.int (r.length : Int), .D⟩ := by
        show some (RV.mk (.int (((r.map D.int).length : Nat) : Int)) .D) = _
        rw [List.length_map]
      simp only [exL_nil, exL_cons, exS, evq_v, evq_k, evq_gc, evq_tup, evq_lst, evq_o2, evq_ch, evq_neg, evq_nt, evq_an, evq_or, evq_ife, evq_ix, evq_sl, evq_call, evq_bi, evq_isi, evq_me, evq_bg, evq_heard, evq_comp, evq_dcomp, evL, evO, evS, evG, evC, evAn, evOr, slot, get_0, get_s, put_0, put_s, wipe_nil, wipe_cons, List.set_cons_zero, List.set_cons_succ, freeze, freeze1, occ, occL, occO, occS, occG, occS2, List.foldl_nil, List.foldl_cons, List.append_nil, List.nil_append, List.cons_append, List.map_cons, List.map_nil, List.replicate_succ, List.replicate_zero, ofRes_ok, ofRes_exc, ok_bind, exc_bind, opt_some, outR_ret, outR_nx, outR_exc, asT_f, asT_t, flat_tup, flat_pr, flat_lst, flat_dct, flat_int, flat_str, flat_bl, flat_non, flat_bag, flatL_nil, flatL_cons, Bool.and_true, Bool.true_and, Bool.and_false, Bool.false_and, if_true, if_false, ite_true, ite_false, Bool.false_eq_true, List.contains_nil, Nat.reduceSub, Nat.reduceAdd, Nat.reduceEqDiff, lent_D, lent_R, lent_S, lent_BR, lent_BD, fU0, fL0, fU1, fL1, fU2, fL2, fU3, fL3, fU4, fL4, fU5, fL5, fU6, fL6, fU7, fL7, fU8, fL8, kids_lst, kids_tup, asgTg, asgL, mdOf, bRes, truth, turn, rowD_flat, hl, sub_int]
  rw [peel s1, peel s2, peel s3, peel s4, peel s5]
  refine NxTo.cons (Q := fun δ B => B = B1 ∧ ∃ a11 a12, δ = [a0, some (.S, .bag), a2, some (.S, netD n ds), some (.S, namesD n), some (.S, doorsD ds), some (.D, .lst ((srtR n ds).map rowD)), none, some (.S, .tup (ds.map cplD)), none, none, a11, a12, none]) ?_ ?_
  · refine (for_to (s := .enum (.v 4)) (t := .tup [11, 12]) (b := forBody (hd1 (tl1 (tl1 (tl1 (tl1 (tl1 lap26))))))) (l := (List.range n).map prD) (fun l δ B => B = B1 ∧ (∀ d ∈ l, ∃ a, a < n ∧ d = prD a) ∧ ∃ a11 a12, δ = [a0, some (.S, .bag), a2, some (.S, netD n ds), some (.S, namesD n), some (.S, doorsD ds), some (.D, .lst ((srtR n ds).map rowD)), none, some (.S, .tup (ds.map cplD)), none, none, a11, a12, none]) ?_ ?_ ?_).mono fun δ B h => ⟨h.1, h.2.2⟩
    · simp only [exL_nil, exL_cons, exS, evq_v, evq_k, evq_gc, evq_tup, evq_lst, evq_o2, evq_ch, evq_neg, evq_nt, evq_an, evq_or, evq_ife, evq_ix, evq_sl, evq_call, evq_bi, evq_isi, evq_me, evq_bg, evq_heard, evq_comp, evq_dcomp, evL, evO, evS, evG, evC, evAn, evOr, slot, get_0, get_s, put_0, put_s, wipe_nil, wipe_cons, List.set_cons_zero, List.set_cons_succ, freeze, freeze1, occ, occL, occO, occS, occG, occS2, List.foldl_nil, List.foldl_cons, List.append_nil, List.nil_append, List.cons_append, List.map_cons, List.map_nil, List.replicate_succ, List.replicate_zero, ofRes_ok, ofRes_exc, ok_bind, exc_bind, opt_some, outR_ret, outR_nx, outR_exc, asT_f, asT_t, flat_tup, flat_pr, flat_lst, flat_dct, flat_int, flat_str, flat_bl, flat_non, flat_bag, flatL_nil, flatL_cons, Bool.and_true, Bool.true_and, Bool.and_false, Bool.false_and, if_true, if_false, ite_true, ite_false, Bool.false_eq_true, List.contains_nil, Nat.reduceSub, Nat.reduceAdd, Nat.reduceEqDiff, lent_D, lent_R, lent_S, lent_BR, lent_BD, fU0, fL0, fU1, fL1, fU2, fL2, fU3, fL3, fU4, fL4, fU5, fL5, fU6, fL6, fU7, fL7, fU8, fL8, kids_lst, kids_tup, asgTg, asgL, mdOf, bRes, truth, namesD_flat, enum_names, enum_map g.n8]
    · exact ⟨rfl, fun d hd => by obtain ⟨a, ha, rfl⟩ := List.mem_map.mp hd; exact ⟨a, List.mem_range.mp ha, rfl⟩, _, _, by simp only [exL_nil, exL_cons, exS, evq_v, evq_k, evq_gc, evq_tup, evq_lst, evq_o2, evq_ch, evq_neg, evq_nt, evq_an, evq_or, evq_ife, evq_ix, evq_sl, evq_call, evq_bi, evq_isi, evq_me, evq_bg, evq_heard, evq_comp, evq_dcomp, evL, evO, evS, evG, evC, evAn, evOr, slot, get_0, get_s, put_0, put_s, wipe_nil, wipe_cons, List.set_cons_zero, List.set_cons_succ, freeze, freeze1, occ, occL, occO, occS, occG, occS2, List.foldl_nil, List.foldl_cons, List.append_nil, List.nil_append, List.cons_append, List.map_cons, List.map_nil, List.replicate_succ, List.replicate_zero, ofRes_ok, ofRes_exc, ok_bind, exc_bind, opt_some, outR_ret, outR_nx, outR_exc, asT_f, asT_t, flat_tup, flat_pr, flat_lst, flat_dct, flat_int, flat_str, flat_bl, flat_non, flat_bag, flatL_nil, flatL_cons, Bool.and_true, Bool.true_and, Bool.and_false, Bool.false_and, if_true, if_false, ite_true, ite_false, Bool.false_eq_true, List.contains_nil, Nat.reduceSub, Nat.reduceAdd, Nat.reduceEqDiff, lent_D, lent_R, lent_S, lent_BR, lent_BD, fU0, fL0, fU1, fL1, fU2, fL2, fU3, fL3, fU4, fL4, fU5, fL5, fU6, fL6, fU7, fL7, fU8, fL8, kids_lst, kids_tup, asgTg, asgL, mdOf, bRes, truth, namesD_flat]; rfl⟩
    · rintro d r δ B ⟨rfl, hd, a11, a12, rfl⟩
      obtain ⟨a, ha, rfl⟩ := hd d List.mem_cons_self
      exact ⟨_, rfl, .of (hall26 F g ha ⟨a0, a2, rfl⟩) ⟨rfl, fun d hd' => hd d (List.mem_cons_of_mem _ hd'), _, _, rfl⟩⟩
  rintro δ B2 ⟨rfl, a11, a12, rfl⟩
  obtain ⟨r, B3, e4, ⟨d, hd, rfl⟩, hB3⟩ := sp_some (k := k + 4) (W := W) (l := [D.str (Str.ofString "zz"), .non, .int 1, .str (Str.ofString "A")]) F.h13 F.h14 rfl (by decide) hB1
  have fl : d.flat = true := by
    simp only [List.mem_cons, List.not_mem_nil, or_false] at hd
    rcases hd with rfl | rfl | rfl | rfl <;> rfl
  have c6 : ∀ f, callR (callN Pf W (k + 6)) 14 [⟨.bag, .D⟩, ⟨.lst [D.str (Str.ofString "zz"), .non, .int 1, .str (Str.ofString "A")], f⟩] B2 = .ok ⟨d, .D⟩ B3 := fun f => callR_flat e4 fl
  have c7 : callR (callN Pf W (k + 6)) 5 [⟨netD n ds, .D⟩, ⟨d, .D⟩] B3 = .exc ⟨1, []⟩ B3 := callR_exc (sp_no_number (k := k + 4) F.h2 F.h5 g.n8 hd)
  have s7 : exS (callN Pf W (k + 6)) W (hd1 (tl1 (tl1 (tl1 (tl1 (tl1 (tl1 lap26))))))) [] [a0, some (.S, .bag), a2, some (.S, netD n ds), some (.S, namesD n), some (.S, doorsD ds), some (.D, .lst ((srtR n ds).map rowD)), none, some (.S, .tup (ds.map cplD)), none, none, a11, a12, none] B2
      = .nx [a0, some (.S, .bag), a2, some (.S, netD n ds), some (.S, namesD n), some (.S, doorsD ds), some (.D, .lst ((srtR n ds).map rowD)), none, some (.S, .tup (ds.map cplD)), none, none, a11, a12, none] B3 := by
    simp only [exL_nil, exL_cons, exS, evq_v, evq_k, evq_gc, evq_tup, evq_lst, evq_o2, evq_ch, evq_neg, evq_nt, evq_an, evq_or, evq_ife, evq_ix, evq_sl, evq_call, evq_bi, evq_isi, evq_me, evq_bg, evq_heard, evq_comp, evq_dcomp, evL, evO, evS, evG, evC, evAn, evOr, slot, get_0, get_s, put_0, put_s, wipe_nil, wipe_cons, List.set_cons_zero, List.set_cons_succ, freeze, freeze1, occ, occL, occO, occS, occG, occS2, List.foldl_nil, List.foldl_cons, List.append_nil, List.nil_append, List.cons_append, List.map_cons, List.map_nil, List.replicate_succ, List.replicate_zero, ofRes_ok, ofRes_exc, ok_bind, exc_bind, opt_some, outR_ret, outR_nx, outR_exc, asT_f, asT_t, flat_tup, flat_pr, flat_lst, flat_dct, flat_int, flat_str, flat_bl, flat_non, flat_bag, flatL_nil, flatL_cons, Bool.and_true, Bool.true_and, Bool.and_false, Bool.false_and, if_true, if_false, ite_true, ite_false, Bool.false_eq_true, List.contains_nil, Nat.reduceSub, Nat.reduceAdd, Nat.reduceEqDiff, lent_D, lent_R, lent_S, lent_BR, lent_BD, fU0, fL0, fU1, fL1, fU2, fL2, fU3, fL3, fU4, fL4, fU5, fL5, fU6, fL6, fU7, fL7, fU8, fL8, kids_lst, kids_tup, asgTg, asgL, mdOf, bRes, truth, lap26, Tk26.r_law, forBody, hd1, tl1, netD_flat, c6, c7, ne_nothing]
  rw [peel s7]
  exact .nil ⟨⟨_, _, _, _, _, _, _, _, _, rfl⟩, hB3⟩
theorem law_26 (hB : BOk B) : ∃ B', exL (callN Pf W (k + 6)) W Tk26.r_law [] (env0 1 14) B = .ret ⟨.bl true, .D⟩ B' := by
  have one : NxTo (exS (callN Pf W (k + 6)) W (hd1 Tk26.r_law) [] (env0 1 14) B) fun δ B => E1 δ ∧ BOk B := by
    refine (for_to (s := .rng (.cons (.k (.int 8)) .nil)) (t := .n 2) (b := lap26) (l := rangeL 0 8) (fun l δ B => E1 δ ∧ BOk B ∧ ∀ d ∈ l, ∃ i, d = D.int i) ?_ ?_ ?_).mono fun δ B h => ⟨h.1, h.2.1⟩
    · rfl
    · exact ⟨⟨_, _, _, _, _, _, _, _, _, rfl⟩, hB, fun d hd => by obtain ⟨a, _, rfl⟩ := List.mem_map.mp hd; exact ⟨_, rfl⟩⟩
    · rintro d r δ B ⟨⟨a0, a2, a3, a4, a5, a6, a8, a11, a12, rfl⟩, hB, hd⟩
      obtain ⟨i, rfl⟩ := hd d List.mem_cons_self
      refine ⟨_, rfl, (lap_26 F ⟨a0, some (.S, .int i), a3, a4, a5, a6, a8, a11, a12, rfl⟩ hB).mono fun δ B h => ⟨h.1, h.2, fun d hd' => hd d (List.mem_cons_of_mem _ hd')⟩⟩
  obtain ⟨δ, B', e, hE, hB'⟩ := one
  refine ⟨B', ?_⟩
  show exL _ _ (.cons (hd1 Tk26.r_law) (.cons (.ret (.k (.bl true))) .nil)) _ _ _ = _
  rw [peel e]
  rfl
end
end
theorem bag0_ok (ns : List Int) (h : ns.length ≤ 63) : BOk (bag0 ns) := ⟨by show (0 : Int) ≤ 0; decide, by show (0 : Int) ≤ 1234567891 ∧ (1234567891 : Int) < 2147483647; decide, by show (ns.map absI).length ≤ 63; rw [List.length_map]; exact h, fun x hx => by
  obtain ⟨i, _, rfl⟩ := List.mem_map.mp (show x ∈ ns.map absI from hx)
  exact absI_nn i⟩
theorem fns26 : Fns26 Tk26.tx.Pf := ⟨rfl, rfl, rfl, rfl, rfl, rfl, rfl, rfl, rfl, rfl, rfl, rfl, rfl, rfl, rfl, rfl, rfl, rfl, rfl, rfl, rfl⟩
theorem _root_.Tk26.plain : ∀ ns : List Int, ns.length ≤ 63 → ∃ fl B', exL (callN Tk26.tx.Pf 12 12) 12 Tk26.li.r [] (env0 Tk26.li.j Tk26.li.n) (bag0 ns) = .ret ⟨.bl true, fl⟩ B' ∧ fl.lent = false := fun ns h => by
  obtain ⟨B', e⟩ := law_26 (k := 6) (W := 12) fns26 (bag0_ok ns h)
  exact ⟨.D, B', e, rfl⟩
end Wh

set_option maxHeartbeats 0
namespace Tk26
open PySem PySem.Spec PyProof.Rows L2 Wh
abbrev R : PySem.W.OpenRow := PySem.W.OpenLaw.row PySem.Challenge.rw_watchhalls_k26_words_of_nets
abbrev hk : PySem.W.Hook := He.hookX 4 tx.fa tx.fnl [] tx.tf tx.ex
def ob (s : PySem.W.SharedT) : He.AlX := He.obsX 4 tx.fa tx.fnl [] tx.tf tx.ex (HandSHeadRun.getT s)
theorem ob_eq (s : PySem.W.SharedT) : ob s = hk.obs s.abs := He.obsX_eq (HandSHeadRun.getT_eq s)
theorem headRun (w : World) : HandSHeadRun.RunEq R (PySem.W.view R.prog [lawTop]) hk ob 3000 looseN w := by intro os; kernel_rfl
theorem names : (HandSHeadRun.topDef R.prog lawTop).name = Str.ofString "law" := by kernel_rfl
theorem room : L2.Room (3 * 12 + 3) PySem.callerA := ⟨rfl, by decide +kernel, by decide +kernel⟩
theorem law_at (w : World) (mg : Str → Option Value) (fa : Addr) (h : Heap) (Y : hk.says w h) (G : h.Ns mainGlobals mg) (hm : mg (HandSHeadRun.topDef R.prog lawTop).name = some (.ref fa)) : ∃ K cs, LawRun R.prog w 63 mg fa h K cs := by
  obtain ⟨K, X, c⟩ := Y
  rw [names] at hm
  have c : Told tx w h K := c
  exact ⟨K, _, c.run X G ok1 ok2 ok3 ok4 room hm (c.gloN X G (by decide +kernel)) plain⟩
end Tk26
open PySem PySem.W PySem.Calls PyProof.Rows
theorem PySem.Challenge.cw_watchhalls_k26_words_of_nets_holds : PySem.Challenge.rw_watchhalls_k26_words_of_nets.Holds := by
  w_on; o_law; refine HandSHeadRun.head_any (r := Tk26.R) (q := view Tk26.R.prog [Tk26.lawTop]) (H := Tk26.hk) (ob := Tk26.ob) (M := 3000) (loose := Tk26.looseN) (d := HandSHeadRun.topDef Tk26.R.prog Tk26.lawTop) (kwd := []) Tk26.ob_eq (by kernel_rfl) (fun s => by kernel_rfl) Tk26.headRun (by kernel_rfl) (by kernel_rfl) (by kernel_rfl) (by rfl) (by first | assumption | decide +kernel) (by decide +kernel) ⟨rfl, rfl, rfl, rfl, rfl, by decide +kernel⟩ ?hw ?hc
  case hw => w_witness2
  case hc => exact Wh.walk_end (l := PySem.Challenge.rw_watchhalls_k26_words_of_nets) (n := 63) rfl (by decide +kernel) (by kernel_rfl) Tk26.law_at

