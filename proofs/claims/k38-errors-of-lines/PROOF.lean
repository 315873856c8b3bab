import PyProof.Rows.All
import Wide.All
import OpenK.AllK
import Wide.FinOn
import HandS.ForMost
import PyProof.ReprRoads
import HandS.ForExc
import HandS.Flow
import HandS.TupAny
import HandS.TupMul
import HandS.IsInst
import HandS.Wide
import HandS.Walk
import HandS.Zip
import HandS.Style
import HandS.CallSlots
import HandS.Lambda
import HandS.TupLe
import KE.KeyNested
import KE.GoesEnum
import KE.KAssignIn
import HandS.DictComp
import HandS.SortOrd
import HandS.DictTup
import KE.KDictSum
import KE.KDictCopyH
import HandS.OwnEq
import HandS.Sort
import HandS.TryMany
import HandS.ExcField
import KE.KExcSuper
import KE.KExcInit
import HandS.FStr
import HandS.ExcInit
import HandS.EndTab
import HandS.Ends
import HandS.Defaults
import PySem.Challenge.RW_sightroads_k38_errors_of_lines
section
-- Ev
set_option linter.all false
/-! Q: a small evaluator of the part of Python that these texts are written in. -/
namespace Q
open PySem

/-- values: trees; a list, a dict is a place of the store -/
inductive D where
  | non
  | bl (b : Bool)
  | int (i : Int)
  | str (x : Str)
  | tup (ds : List D)
  | ref (n : Nat)
  /-- a list that is never written (what the law is given) -/
  | fl (ds : List D)
  /-- a list, a dict of the text that is never written -/
  | fz (ds : List D)
  | fd
  /-- lambdas in a list; a def as a value -/
  | clos (js : List Nat)
  | fnv (i : Nat)
deriving Inhabited
inductive Cell where
  | lst (ds : List D)
  | dct (kvs : List (D × D))
  /-- where a def's lambdas are noted, under a name -/
  | tbl (q : Str)
  /-- an instance of the class of that global name -/
  | ins (nm : Str) (fs : List (Str × D))
deriving Inhabited
abbrev Store := List Cell
abbrev Env := List (Option D)
/-- what an expression gives: a value, or a list that nobody else holds -/
inductive R where
  | v (d : D)
  | t (ds : List D)
deriving Inhabited
structure Exn where
  cls : Nat
  val : Option D
deriving Inhabited
inductive Res (α : Type) where
  | ok (a : α) (S : Store)
  | err (x : Exn) (S : Store)
  | bad
deriving Inhabited
def Res.bind {α β : Type} (r : Res α) (f : α → Store → Res β) : Res β :=
  match r with
  | .ok a S => f a S
  | .err x S => .err x S
  | .bad => .bad
@[simp] theorem Res.bind_ok {α β : Type} (a : α) (S : Store) (f : α → Store → Res β) : (Res.ok a S).bind f = f a S := rfl
@[simp] theorem Res.bind_err {α β : Type} (x : Exn) (S : Store) (f : α → Store → Res β) : (Res.err x S : Res α).bind f = .err x S := rfl
@[simp] theorem Res.bind_bad {α β : Type} (f : α → Store → Res β) : (Res.bad : Res α).bind f = .bad := rfl
/-- within a comprehension nothing may be raised -/
def calm {α : Type} (r : Res α) : Res α := match r with
  | .ok a S => .ok a S
  | _ => .bad
@[simp] theorem calm_ok {α : Type} (a : α) (S : Store) : calm (Res.ok a S) = .ok a S := rfl
/-- a partial result -/
def opt {α β : Type} (o : Option α) (f : α → Res β) : Res β := match o with | some a => f a | none => .bad
@[simp] theorem opt_some {α β : Type} (a : α) (f : α → Res β) : opt (some a) f = f a := rfl
@[simp] theorem opt_none {α β : Type} (f : α → Res β) : opt none f = .bad := rfl

def szl : Nat := 16777216
/-- what the int rules ask for -/
def mulOk (i j : Int) : Bool := Nat.blt (i.natAbs.log2 + j.natAbs.log2) 1000000
def divOk (j : Int) : Bool := Nat.blt j.natAbs.log2 9000 && !(j == 0)

inductive Bi1 where | len | abs | int | bool | all | any | tuple | list | repr
inductive Bi2 where | min | max | divmod
inductive Mth where | append
inductive Ty where | int | bool | str | tuple | list | dict
deriving DecidableEq

mutual
inductive E where
  | non | bl (b : Bool) | int (i : Int) | str (x : Str)
  | var (i : Nat) | glb (j : Nat)
  | tup (es : Es) | lst (es : Es)
  | bin (o : Operator) (a b : E)
  | neg (a : E) | not (a : E)
  | cmp (o : CmpOp) (a b : E) | chn (o o' : CmpOp) (a b c : E)
  | bop (o : BoolOp) (es : Es)
  | ife (c a b : E)
  | idx (a i : E) | slc (a : E) (lo hi : Eo) | rev (a : E)
  | call (f : Nat) (es : Es)
  | bi1 (b : Bi1) (a : E) | bi2 (b : Bi2) (a c : E)
  | isi (a : E) (ts : Ty) | isiT (a : E) (ts : List Ty)
  | met (m : Mth) (o a : E)
  | dct0
  | lc (elt : E) (tg : T) (it : It) (c : Eo) (k : Nat)
  /-- such a list, never written -/
  | flc (elt : E) (tg : T) (it : It) (c : Eo) (k : Nat)
  /-- a list, a dict that is never written -/
  | flst (es : Es) | fdct
  /-- list(a), never written -/
  | flsc (a : E)
  /-- a call that sees no list of ours -/
  | callF (f : Nat) (es : Es)
  /-- [w(x) for x in calls], calls a list of lambdas -/
  | words (w i x k : Nat)
  /-- such a call of what a slot holds -/
  | calv (i : Nat) (es : Es)
  /-- what is new, and never written -/
  | fbin (o : Operator) (a b : E) | fslc (a : E) (lo hi : Eo) | fcall (f : Nat) (es : Es)
  /-- w(lambda: ..) -/
  | lwd (w j : Nat) (is : List Nat)
  /-- tuple(sorted({x: True for x in a})), rows -/
  | tidy (a : E) (i k : Nat)
  /-- o.f; C(..); o.m(..) -/
  | fld (o : E) (f : Str) | new (c : Str) (es : Es) | mth (o : E) (f : Str) (es : Es)
inductive Es where
  | nil | cons (e : E) (r : Es)
inductive Eo where
  | no | so (e : E)
inductive T where
  | nm (i : Nat) | tp (ts : Ts) | sb (o i : E) | fa (o : E) (f : Str)
inductive Ts where
  | nil | cons (t : T) (r : Ts)
inductive It where
  | seq (e : E) | rng1 (a : E) | rng2 (a b : E) | zip (a b : E) | enum (a : E)
end
mutual
inductive S where
  | asg (t : T) (e : E)
  | par2 (i j : Nat) (a b : E) | par3 (i j k : Nat) (a b c : E)
  | aug (i : Nat) (o : Operator) (e : E)
  | expr (e : E)
  | ife (c : E) (a b : Ss)
  | whl (c : E) (b : Ss)
  | for (t : T) (it : It) (b : Ss)
  | ret (e : E) | ret0
  | pass | brk | cont
  /-- a statement that is never reached -/
  | hole (k : Nat)
  /-- a list of lambdas -/
  | clos (i : Nat) (js : List Nat)
  /-- raise C(e) -/
  | raise (c : Nat) (e : E)
  /-- for w in (f, g, ..), defs -/
  | forF (i : Nat) (fs : List Nat) (b : Ss)
inductive Ss where
  | nil | cons (s : S) (r : Ss)
end

def Ts.len : Ts → Nat
  | .nil => 0
  | .cons _ r => r.len + 1
def Es.len : Es → Nat
  | .nil => 0
  | .cons _ r => r.len + 1
/-! ### data -/
/-- a value as data of the library (lists read in the store) -/
def D.py (S : Store) : Nat → D → Option PyData
  | 0, _ => none
  | f + 1, d => match d with
    | .non => some .none
    | .bl b => some (.bool b)
    | .int i => some (.int i)
    | .str x => some (.str x)
    | .tup ds => (ds.mapM (D.py S f)).map .tuple
    | .ref n => match S[n]? with
      | some (.lst ds) => (ds.mapM (D.py S f)).map .list
      | _ => none
    | .fz ds => (ds.mapM (D.py S f)).map .list
    | _ => none
def R.py (S : Store) : R → Option PyData
  | .v d => d.py S 66
  | .t ds => (ds.mapM (D.py S 65)).map .list
def eqR (S : Store) (a b : R) : Option Bool := match a.py S, b.py S with
  | some x, some y => if SeqAt.shaped x && SeqAt.shaped y then some (PyData.eqv x y) else none
  | _, _ => none
/-- all refs lie below n -/
def lowD (n : Nat) : Nat → D → Bool
  | 0, _ => false
  | f + 1, d => match d with
    | .tup ds => ds.all (lowD n f)
    | .fl ds => ds.all (lowD n f)
    | .fz ds => ds.all (lowD n f)
    | .ref m => Nat.blt m n
    | _ => true
def lowC (n : Nat) : Cell → Bool
  | .lst ds => ds.all (lowD n 66)
  | .dct kvs => kvs.all fun p => lowD n 66 p.1 && lowD n 66 p.2
  | .tbl _ => true
  | .ins _ fs => fs.all fun p => lowD n 66 p.2

def truth (S : Store) : R → Option Bool
  | .t ds => some !ds.isEmpty
  | .v d => match d with
    | .non => some false
    | .bl b => some b
    | .int i => some (i != 0)
    | .str x => if Nat.ble x.length szl then some ((x.length : Int) != 0) else none
    | .tup ds => some !ds.isEmpty
    | .ref n => match S[n]? with
      | some (.lst ds) => some !ds.isEmpty
      | _ => none
    | .fz ds => some !ds.isEmpty
    | _ => none
def settle (r : R) (S : Store) (f : D → Store → Res α) : Res α := match r with
  | .v d => f d S
  | .t ds => f (.ref S.length) (S ++ [.lst ds])
/-- a list or tuple that can be read -/
def seqOf (S : Store) : R → Option (Bool × List D)
  | .t ds => some (false, ds)
  | .v d => match d with
    | .tup ds => some (true, ds)
    | .ref n => match S[n]? with
      | some (.lst ds) => some (false, ds)
      | _ => none
    | .fz ds => some (false, ds)
    | _ => none
/-- a[i] -/
def atD (ds : List D) (i : Int) : Option D := L2.atI ds i
/-- where an index lies -/
def ixD (n : Nat) (i : Int) : Option Nat := L2.ixN n i
def flat : D → Bool
  | .non => true
  | .bl _ => true
  | .int _ => true
  | .str _ => true
  | _ => false
def V.of : D → L2.V
  | .non => .non
  | .bl b => .bl b
  | .int i => .int i
  | .str x => .str x
  | _ => .non
def evBin (o : Operator) (S : Store) (a b : R) : Res R := match o with
  | .Add => match a, b with
    | .v (.int i), .v (.int j) => .ok (.v (.int (i + j))) S
    | .v (.str x), .v (.str y) => if Nat.ble (x.length + y.length) szl then .ok (.v (.str (x ++ y))) S else .bad
    | .v (.tup x), .v (.tup y) => if Nat.ble (x.length + y.length) szl then .ok (.v (.tup (x ++ y))) S else .bad
    | a, b => match seqOf S a, seqOf S b with
      | some (false, x), some (false, y) => if Nat.ble (x.length + y.length) szl then .ok (.t (x ++ y)) S else .bad
      | _, _ => .bad
  | .Sub => match a, b with
    | .v (.int i), .v (.int j) => .ok (.v (.int (i - j))) S
    | _, _ => .bad
  | .Mult => match a, b with
    | .v (.int i), .v (.int j) => if mulOk i j then .ok (.v (.int (i * j))) S else .bad
    | .v (.tup x), .v (.int k) => if Nat.ble x.length 1000 && decide (k ≤ 1000) && decide (0 ≤ k) then .ok (.v (.tup (List.replicate k.toNat x).flatten)) S else .bad
    | .v (.fz _), _ => .bad
    | a, .v (.int k) => match seqOf S a with
      | some (false, x) => if Nat.ble x.length 1000 && decide (k ≤ 1000) && decide (0 ≤ k) then .ok (.t (List.replicate k.toNat x).flatten) S else .bad
      | _ => .bad
    | _, _ => .bad
  | .FloorDiv => match a, b with
    | .v (.int i), .v (.int j) => if divOk j then .ok (.v (.int (i.fdiv j))) S else .bad
    | _, _ => .bad
  | .Mod => match a, b with
    | .v (.int i), .v (.int j) => if j == 0 then .bad else .ok (.v (.int (i.fmod j))) S
    | _, _ => .bad
  | .Pow => match a, b with
    | .v (.int i), .v (.int j) => if decide (0 ≤ j) && decide (j ≤ 1000) && Nat.blt i.natAbs.log2 1000 then .ok (.v (.int (i ^ j.toNat))) S else .bad
    | _, _ => .bad
  | _ => .bad
def intsC (f : Int → Int → Bool) (a b : R) : Option Bool := match a, b with
  | .v (.int i), .v (.int j) => some (f i j)
  | _, _ => none
/-- rows: tuples of pairs of ints -/
abbrev Row := List (Int × Int)
def prOf : D → Option (Int × Int)
  | .tup [.int n, .int d] => some (n, d)
  | _ => none
def prsOf : List D → Option Row
  | [] => some []
  | d :: ds => match prOf d, prsOf ds with
    | some p, some r => some (p :: r)
    | _, _ => none
def rowOf : D → Option Row
  | .tup ds => prsOf ds
  | _ => none
def rowsOf : List D → Option (List Row)
  | [] => some []
  | d :: ds => match rowOf d, rowsOf ds with
    | some p, some r => some (p :: r)
    | _, _ => none
def rowD (r : Row) : D := .tup (r.map fun p => .tup [.int p.1, .int p.2])
def ltP (p q : Int × Int) : Bool := if p.1 = q.1 then decide (p.2 < q.2) else decide (p.1 < q.1)
def ltRow : Row → Row → Bool
  | [], [] => false
  | [], _ :: _ => true
  | _ :: _, [] => false
  | p :: r, q :: t => if p = q then ltRow r t else ltP p q
def insR (x : Row) : List Row → List Row
  | [] => [x]
  | y :: l => if x = y then y :: l else if ltRow x y then x :: y :: l else y :: insR x l
def tidyR (rs : List Row) : List Row := rs.foldl (fun a x => insR x a) []
def tidyOf (p : Option (Bool × List D)) : Option (List D) := match p with
  | some (_, ds) => match rowsOf ds with
    | some rs => if rs.all (fun r => !r.isEmpty) then some ((tidyR rs).map rowD) else none
    | none => none
  | none => none
def ltR (a b : R) : Option Bool := match a, b with
  | .v (.int i), .v (.int j) => some (decide (i < j))
  | .v (.tup ds), .v (.tup es) => match prsOf ds, prsOf es with
    | some r, some t => some (ltRow r t)
    | _, _ => none
  | _, _ => none
def evCmp (o : CmpOp) (S : Store) (a b : R) : Option Bool := match o with
  | .Eq => eqR S a b
  | .NotEq => (eqR S a b).map (!·)
  | .Lt => ltR a b
  | .LtE => intsC (fun i j => decide (i ≤ j)) a b
  | .Gt => intsC (fun i j => decide (j < i)) a b
  | .GtE => intsC (fun i j => decide (j ≤ i)) a b
  | .Is => match a, b with
    | .v (.bl x), .v (.bl y) => some (x == y)
    | .v (.non), .v .non => some true
    | .v _, .v .non => some false
    | .t _, .v .non => some false
    | _, _ => none
  | .IsNot => match a, b with
    | .v (.bl x), .v (.bl y) => some (!(x == y))
    | .v (.non), .v .non => some false
    | .v _, .v .non => some true
    | .t _, .v .non => some true
    | _, _ => none
  | .In => match a, seqOf S b with
    | .v x, some (_, ys) => if flat x && ys.all flat then some (L2.inV (V.of x) (ys.map V.of)) else none
    | _, _ => none
  | .NotIn => match a, seqOf S b with
    | .v x, some (_, ys) => if flat x && ys.all flat then some (!L2.inV (V.of x) (ys.map V.of)) else none
    | _, _ => none
def allBl : List D → Option (List Bool)
  | [] => some []
  | .bl b :: r => (allBl r).map (b :: ·)
  | _ :: _ => none
def tyIs (S : Store) : R → Ty → Option Bool
  | .t _, t => some (t == .list)
  | .v d, t => match d with
    | .non => some false
    | .bl _ => some (t == .bool || t == .int)
    | .int _ => some (t == .int)
    | .str _ => some (t == .str)
    | .tup _ => some (t == .tuple)
    | .ref n => match S[n]? with
      | some (.lst _) => some (t == .list)
      | some (.dct _) => some (t == .dict)
      | _ => none
    | .fz _ => some (t == .list)
    | .fd => some (t == .dict)
    | _ => none
/-- the text of data -/
def reprOf (p : PyData) : Option Str := if p.showable && !p.hasDict && Nat.ble p.depth 60 && Nat.ble p.shown.length szl then some p.shown else none
def reprR (S : Store) (a : R) : Option Str := (a.py S).bind reprOf
def evBi1 (b : Bi1) (S : Store) (a : R) : Res R := match b with
  | .len => match a with
    | .v (.str x) => if Nat.ble x.length szl then .ok (.v (.int x.length)) S else .bad
    | .v (.fl ds) => .ok (.v (.int ds.length)) S
    | a => match seqOf S a with
      | some (_, ds) => .ok (.v (.int ds.length)) S
      | none => .bad
  | .abs => match a with
    | .v (.int i) => .ok (.v (.int (if i < 0 then -i else i))) S
    | _ => .bad
  | .int => match a with
    | .v (.int i) => .ok (.v (.int i)) S
    | .v (.bl b) => .ok (.v (.int (if b then 1 else 0))) S
    | _ => .bad
  | .bool => match a with
    | .v (.int i) => .ok (.v (.bl (i != 0))) S
    | .v (.bl b) => .ok (.v (.bl b)) S
    | _ => .bad
  | .all => match seqOf S a with
    | some (false, ds) => match allBl ds with
      | some bs => .ok (.v (.bl (bs.all id))) S
      | none => .bad
    | _ => .bad
  | .any => match seqOf S a with
    | some (false, ds) => match allBl ds with
      | some bs => .ok (.v (.bl (bs.any id))) S
      | none => .bad
    | _ => .bad
  | .tuple => match seqOf S a with
    | some (_, ds) => .ok (.v (.tup ds)) S
    | none => .bad
  | .list => match seqOf S a with
    | some (_, ds) => .ok (.t ds) S
    | none => .bad
  | .repr => opt (reprR S a) fun y => .ok (.v (.str y)) S
def evBi2 (b : Bi2) (S : Store) (a c : R) : Res R := match b with
  | .min => match a, c with
    | .v (.int i), .v (.int j) => .ok (.v (.int (if j < i then j else i))) S
    | _, _ => .bad
  | .max => match a, c with
    | .v (.int i), .v (.int j) => .ok (.v (.int (if j > i then j else i))) S
    | _, _ => .bad
  | .divmod => match a, c with
    | .v (.int i), .v (.int j) => if decide (0 < j) && decide (j < 1073741824) then .ok (.v (.tup [.int (i / j), .int (i % j)])) S else .bad
    | _, _ => .bad
def evMet (m : Mth) (S : Store) (n : Nat) (a : D) : Res R := match m with
  | .append => match S[n]? with
    | some (.lst ds) => if Nat.blt ds.length szl then .ok (.v .non) (S.set n (.lst (ds ++ [a]))) else .bad
    | _ => .bad
def getItem (S : Store) (a i : R) : Option D := match i with
  | .v (.int i) => match a with
    | .v (.fl ds) => atD ds i
    | _ => match seqOf S a with
      | some (_, ds) => atD ds i
      | none => none
  | _ => none
def slice (ds : List D) (lo hi : Option Int) : List D := (ds.drop (HT.sIx ds.length 0 lo)).take (HT.sIx ds.length ds.length hi - HT.sIx ds.length 0 lo)
def getSlice (S : Store) (a : R) (lo hi : Option Int) : Res R := match seqOf S a with
  | some (true, ds) => .ok (.v (.tup (slice ds lo hi))) S
  | some (false, ds) => .ok (.t (slice ds lo hi)) S
  | none => .bad
def getRev (S : Store) (a : R) : Res R := match seqOf S a with
  | some (true, ds) => .ok (.v (.tup ds.reverse)) S
  | some (false, ds) => .ok (.t ds.reverse) S
  | none => .bad

/-- what a loop walks: known items, or a list of the store as it stands -/
inductive Iter where
  | its (ds : List D)
  | live (n : Nat)
def isList : R → Bool
  | .v (.tup _) => false
  | _ => true
def iterOf (S : Store) : R → Option Iter
  | .t ds => some (.its ds)
  | .v d => match d with
    | .tup ds => some (.its ds)
    | .ref n => match S[n]? with
      | some (.lst _) => some (.live n)
      | _ => none
    | .fz ds => some (.its ds)
    | _ => none
def range (a b : Int) : List D := (List.range (b - a).toNat).map fun (k : Nat) => .int (a + k)
def rngOk (i : Int) : Bool := decide (-16777216 ≤ i) && decide (i ≤ 16777216)
def zipped (S : Store) (a b : R) : Option (List D) := match a, b with
  | .v (.tup x), .v (.tup y) => some ((x.zip y).map fun p => .tup [p.1, p.2])
  | _, _ => none
def enumd (S : Store) (a : R) : Option (List D) := match a with
  | .v (.tup x) => some (x.zipIdx.map fun p => .tup [.int p.2, p.1])
  | _ => none
def wipe (ρ : Env) : List Nat → Env
  | [] => ρ
  | i :: r => (wipe ρ r).set i none
mutual
def T.slots : T → List Nat
  | .nm i => [i]
  | .tp ts => ts.slots
  | .sb _ _ => []
  | .fa _ _ => []
def Ts.slots : Ts → List Nat
  | .nil => []
  | .cons t r => t.slots ++ r.slots
end
/-- one after another, over known items -/
def overL (step : D → Store → Res (Option D)) : List D → List D → Store → Res (List D)
  | [], acc, S => .ok acc S
  | d :: r, acc, S => (step d S).bind fun o S => match o with
    | some x => overL step r (acc ++ [x]) S
    | none => overL step r acc S
/-- over a list of the store -/
def overV (step : D → Store → Res (Option D)) (n : Nat) : Nat → Nat → List D → Store → Res (List D)
  | 0, i, acc, S => match S[n]? with
    | some (.lst ds) => match ds[i]? with
      | none => .ok acc S
      | some _ => .bad
    | _ => .bad
  | f + 1, i, acc, S => match S[n]? with
    | some (.lst ds) => match ds[i]? with
      | none => .ok acc S
      | some d => (step d S).bind fun o S => match o with
        | some x => overV step n f (i + 1) (acc ++ [x]) S
        | none => overV step n f (i + 1) acc S
    | _ => .bad
def over (step : D → Store → Res (Option D)) (it : Iter) (S : Store) : Res (List D) := match it with
  | .its ds => overL step ds [] S
  | .live n => match S[n]? with
    | some (.lst ds) => overV step n ds.length 0 [] S
    | _ => .bad

structure Fn where
  np : Nat
  ns : Nat
  df : List D
  body : Ss
/-- a lambda: what it reads of its def's slots -/
structure Lam where
  is : List Nat
  ns : Nat
  body : E
/-- except C: return txt | except C as e: return txt + repr(e.x) -/
structure Hdl where
  cls : Nat
  txt : Str
  rep : Bool
/-- a def that calls what it is given and tells what is raised -/
structure Wrd where
  hs : List Hdl
  fine : Str
/-- a class: how it is made, its methods, its fields -/
structure ClsI where
  ini : Option Nat
  ms : List (Str × Nat)
  fl : List Str
structure Ctx where
  fns : List Fn
  glb : List D
  fuel : Nat
  lams : List Lam
  wrds : List Wrd
  tbls : Store
  /-- which errors keep what they are made of -/
  excs : List Bool
  clss : List (Str × ClsI)
  /-- errors that are made of ints alone -/
  exi : List Nat

def tupOf (n : Nat) : D → Option (List D)
  | .tup ds => if ds.length == n then some ds else none
  | _ => none
def uncons : List D → Option (D × List D)
  | [] => none
  | d :: r => some (d, r)
/-- a name's int, changed -/
def evAug (o : Operator) (d : D) (y : R) : Option D := match d, y with
  | .int a, .v (.int b) => match o with
    | .Add => some (.int (a + b))
    | .Sub => some (.int (a - b))
    | _ => none
  | _, _ => none
/-- the parameters that are not given -/
def fill (C : Ctx) (f : Nat) (ds : List D) : Option (List D) := match C.fns[f]? with
  | some F => if Nat.ble ds.length F.np && Nat.ble F.np (ds.length + F.df.length) then some (ds ++ F.df.drop (F.df.length - (F.np - ds.length))) else none
  | none => none
/-- an instance -/
def insOf (S : Store) : R → Option (Nat × Str × List (Str × D))
  | .v (.ref n) => match S[n]? with
    | some (.ins nm fs) => some (n, nm, fs)
    | _ => none
  | _ => none
def putD (f : Str) (v : D) : List (Str × D) → List (Str × D)
  | [] => [(f, v)]
  | (g, x) :: r => if g = f then (g, v) :: r else (g, x) :: putD f v r
def isNon : R → Bool
  | .v .non => true
  | _ => false
/-- the text of a value -/
def reprD (d : D) : Option Str := reprR [] (.v d)
def evHs : List Hdl → Exn → Option Str
  | [], _ => none
  | h :: r, x => if h.cls == x.cls then (if h.rep then match x.val with
      | some d => (reprD d).bind fun s => if Nat.ble (h.txt.length + s.length) szl then some (h.txt ++ s) else none
      | none => none else some h.txt) else evHs r x
/-- the tables stand as they did -/
def tblsOk : Store → Store → Bool
  | [], _ => true
  | .tbl q :: r, .tbl p :: s => q == p && tblsOk r s
  | _, _ => false
/-- a call with nothing but the tables -/
def aside (C : Ctx) (S : Store) : Res R → Res R
  | .ok r S' => if tblsOk C.tbls S' then match r with
      | .v d => if lowD 0 66 d then .ok (.v d) S else .bad
      | .t ds => if ds.all (lowD 0 66) then .ok (.t ds) S else .bad
    else .bad
  | .err x S' => if tblsOk C.tbls S' then match x.val with
      | none => .err x S
      | some d => if lowD 0 66 d then .err x S else .bad
    else .bad
  | .bad => .bad
def slotsOf (ρ : Env) (is : List Nat) : Option (List D) := is.mapM fun i => (ρ[i]?).join
def lamEnv (L : Lam) (ds : List D) : Env := (L.is.zip ds).foldl (fun ρ p => ρ.set p.1 (some p.2)) (List.replicate L.ns none)
/-- a new list is held by nobody, and never written -/
def frzd : R → Store → Res R
  | .t ds, S => .ok (.v (.fz ds)) S
  | .v d, S => .ok (.v d) S
section
variable (C : Ctx) (call : Nat → List D → Store → Res R)
/-- the word of a lambda -/
def word (w : Wrd) (ρ : Env) (S : Store) (j : Nat) : Res R := opt C.lams[j]? fun L => opt (slotsOf ρ L.is) fun ds => if ds.all (lowD 0 66) && tblsOk C.tbls S then match aside C S (call (C.fns.length + j) ds C.tbls) with
    | .ok _ S => .ok (.v (.str w.fine)) S
    | .err x S => opt (evHs w.hs x) fun s => .ok (.v (.str s)) S
    | .bad => .bad
  else .bad
def wordsL (w : Wrd) (ρ : Env) (S : Store) : List Nat → Res (List D)
  | [] => .ok [] S
  | j :: r => match word C call w ρ S j with
    | .ok (.v d) _ => (wordsL w ρ S r).bind fun ds S => .ok (d :: ds) S
    | _ => .bad
def isI : D → Bool
  | .int i => Nat.blt i.natAbs.log2 1920
  | _ => false
mutual
def evE : E → Env → Store → Res R
  | .non, _, S => .ok (.v .non) S
  | .bl b, _, S => .ok (.v (.bl b)) S
  | .int i, _, S => .ok (.v (.int i)) S
  | .str x, _, S => .ok (.v (.str x)) S
  | .var i, ρ, S => match ρ[i]? with
    | some (some d) => .ok (.v d) S
    | _ => .bad
  | .glb j, _, S => opt C.glb[j]? fun d => .ok (.v d) S
  | .tup es, ρ, S => (evEs es ρ S).bind fun ds S => .ok (.v (.tup ds)) S
  | .lst es, ρ, S => (evEs es ρ S).bind fun ds S => .ok (.t ds) S
  | .bin o a b, ρ, S => (evE a ρ S).bind fun x S => (evE b ρ S).bind fun y S => evBin o S x y
  | .neg a, ρ, S => (evE a ρ S).bind fun x S => match x with
    | .v (.int i) => .ok (.v (.int (-i))) S
    | _ => .bad
  | .not a, ρ, S => (evE a ρ S).bind fun x S => opt (truth S x) fun b => .ok (.v (.bl (!b))) S
  | .cmp o a b, ρ, S => (evE a ρ S).bind fun x S => (evE b ρ S).bind fun y S => opt (evCmp o S x y) fun c => .ok (.v (.bl c)) S
  | .chn o o' a b c, ρ, S => (evE a ρ S).bind fun x S => (evE b ρ S).bind fun y S => opt (evCmp o S x y) fun k =>
      if k then (evE c ρ S).bind fun z S => opt (evCmp o' S y z) fun k => .ok (.v (.bl k)) S else .ok (.v (.bl false)) S
  | .bop o es, ρ, S => evBop o es ρ S
  | .ife c a b, ρ, S => (evE c ρ S).bind fun x S => opt (truth S x) fun k => if k then evE a ρ S else evE b ρ S
  | .idx a i, ρ, S => (evE a ρ S).bind fun x S => (evE i ρ S).bind fun y S => opt (getItem S x y) fun d => .ok (.v d) S
  | .slc a lo hi, ρ, S => (evE a ρ S).bind fun x S => (evB lo ρ S).bind fun l S => (evB hi ρ S).bind fun h S => getSlice S x l h
  | .rev a, ρ, S => (evE a ρ S).bind fun x S => getRev S x
  | .call f es, ρ, S => (evEs es ρ S).bind fun ds S => opt (fill C f ds) fun ds => call f ds S
  | .bi1 b a, ρ, S => (evE a ρ S).bind fun x S => evBi1 b S x
  | .bi2 b a c, ρ, S => (evE a ρ S).bind fun x S => (evE c ρ S).bind fun y S => evBi2 b S x y
  | .isi a t, ρ, S => (evE a ρ S).bind fun x S => opt (tyIs S x t) fun b => .ok (.v (.bl b)) S
  | .isiT a ts, ρ, S => (evE a ρ S).bind fun x S => opt (ts.mapM (tyIs S x)) fun bs => .ok (.v (.bl (bs.any id))) S
  | .met m o a, ρ, S => (evE o ρ S).bind fun x S => match x with
    | .v (.ref n) => match S[n]? with
      | some (.lst _) => (evE a ρ S).bind fun y S => settle y S fun y S => evMet m S n y
      | _ => .bad
    | _ => .bad
  | .dct0, _, S => .ok (.v (.ref S.length)) (S ++ [.dct []])
  | .lc elt tg it c _, ρ, S => (evI it ρ S).bind fun I S =>
      (calm (over (fun d S => (asT tg d (wipe ρ tg.slots) S).bind fun ρ S => (evC c ρ S).bind fun k S =>
        if k then (evE elt ρ S).bind fun y S => settle y S fun d S => .ok (some d) S else .ok none S) I S)).bind fun ds S => .ok (.t ds) S
  | .flc elt tg it c _, ρ, S => (evI it ρ S).bind fun I S =>
      (calm (over (fun d S => (asT tg d (wipe ρ tg.slots) S).bind fun ρ S => (evC c ρ S).bind fun k S =>
        if k then (evE elt ρ S).bind fun y S => settle y S fun d S => .ok (some d) S else .ok none S) I S)).bind fun ds S => .ok (.v (.fz ds)) S
  | .flst es, ρ, S => (evEs es ρ S).bind fun ds S => .ok (.v (.fz ds)) S
  | .fdct, _, S => .ok (.v .fd) S
  | .flsc a, ρ, S => (evE a ρ S).bind fun x S => opt (seqOf S x) fun p => .ok (.v (.fz p.2)) S
  | .callF f es, ρ, S => (evEs es ρ S).bind fun ds S => opt (fill C f ds) fun ds => if ds.all (lowD 0 66) && tblsOk C.tbls S then aside C S (call f ds C.tbls) else .bad
  | .words w i _ _, ρ, S => opt C.wrds[w]? fun w => match ρ[i]? with
    | some (some (.clos js)) => (wordsL C call w ρ S js).bind fun ds S => .ok (.t ds) S
    | _ => .bad
  | .calv i es, ρ, S => match ρ[i]? with
    | some (some (.fnv f)) => opt C.fns[f]? fun F => if Nat.ble es.len F.np && Nat.ble F.np (es.len + F.df.length) then (evEs es ρ S).bind fun ds S => opt (fill C f ds) fun ds => call f ds S
      else .bad
    | _ => .bad
  | .fld o f, ρ, S => (evE o ρ S).bind fun x S => opt (insOf S x) fun p => opt (C.clss.lookup p.2.1) fun I => if I.fl.contains f then opt (p.2.2.lookup f) fun d => .ok (.v d) S else .bad
  | .mth o f es, ρ, S => (evE o ρ S).bind fun x S => opt (insOf S x) fun p => opt (C.clss.lookup p.2.1) fun I => opt (I.ms.lookup f) fun g => if (p.2.2.lookup f).isNone then (evEs es ρ S).bind fun ds S => opt (fill C g (.ref p.1 :: ds)) fun ds => call g ds S else .bad
  | .new c es, ρ, S => opt (C.clss.lookup c) fun I => opt I.ini fun g => (evEs es ρ S).bind fun ds S => opt (fill C g (.ref S.length :: ds)) fun ds => (call g ds (S ++ [.ins c []])).bind fun r S' => if isNon r then .ok (.v (.ref S.length)) S' else .bad
  | .tidy a _ _, ρ, S => (evE a ρ S).bind fun x S => opt (tidyOf (seqOf S x)) fun ds => evBi1 .tuple S (.t ds)
  | .lwd w j _, ρ, S => opt C.wrds[w]? fun w => word C call w ρ S j
  | .fbin o a b, ρ, S => (evE a ρ S).bind fun x S => (evE b ρ S).bind fun y S => (evBin o S x y).bind frzd
  | .fslc a lo hi, ρ, S => (evE a ρ S).bind fun x S => (evB lo ρ S).bind fun l S => (evB hi ρ S).bind fun h S => (getSlice S x l h).bind frzd
  | .fcall f es, ρ, S => (evEs es ρ S).bind fun ds S => opt (fill C f ds) fun ds => if ds.all (lowD 0 66) && tblsOk C.tbls S then (aside C S (call f ds C.tbls)).bind frzd else .bad
def evEs : Es → Env → Store → Res (List D)
  | .nil, _, S => .ok [] S
  | .cons e r, ρ, S => (evE e ρ S).bind fun x S => settle x S fun d S => (evEs r ρ S).bind fun ds S => .ok (d :: ds) S
def evBop : BoolOp → Es → Env → Store → Res R
  | _, .nil, _, _ => .bad
  | o, .cons e r, ρ, S => match r with
    | .nil => evE e ρ S
    | .cons e' r' => (evE e ρ S).bind fun x S => opt (truth S x) fun k => match o with
      | .And => if k then evBop o (.cons e' r') ρ S else .ok x S
      | .Or => if k then .ok x S else evBop o (.cons e' r') ρ S
def evB : Eo → Env → Store → Res (Option Int)
  | .no, _, S => .ok none S
  | .so e, ρ, S => (evE e ρ S).bind fun x S => match x with
    | .v (.int i) => .ok (some i) S
    | _ => .bad
def evC : Eo → Env → Store → Res Bool
  | .no, _, S => .ok true S
  | .so e, ρ, S => (evE e ρ S).bind fun x S => opt (truth S x) fun k => .ok k S
def asT : T → D → Env → Store → Res Env
  | .nm i, d, ρ, S => .ok (ρ.set i (some d)) S
  | .tp ts, d, ρ, S => opt (tupOf ts.len d) fun ds => asTs ts ds ρ S
  | .sb o i, d, ρ, S => (evE o ρ S).bind fun x S => (evE i ρ S).bind fun y S => match x, y with
    | .v (.ref n), .v (.int k) => match S[n]? with
      | some (.lst ds) => opt (ixD ds.length k) fun j => .ok ρ (S.set n (.lst (ds.set j d)))
      | _ => .bad
    | _, _ => .bad
  | .fa o f, d, ρ, S => (evE o ρ S).bind fun x S => opt (insOf S x) fun p => opt (C.clss.lookup p.2.1) fun I => if I.fl.contains f && Nat.blt p.2.2.length 1000 then .ok ρ (S.set p.1 (.ins p.2.1 (putD f d p.2.2))) else .bad
def asTs : Ts → List D → Env → Store → Res Env
  | .nil, ds, ρ, S => if ds.isEmpty then .ok ρ S else .bad
  | .cons t r, ds, ρ, S => opt (uncons ds) fun p => (asT t p.1 ρ S).bind fun ρ S => asTs r p.2 ρ S
def evI : It → Env → Store → Res Iter
  | .seq e, ρ, S => (evE e ρ S).bind fun x S => opt (iterOf S x) fun I => .ok I S
  | .rng1 a, ρ, S => (evE a ρ S).bind fun x S => match x with
    | .v (.int i) => if rngOk i then .ok (.its (range 0 i)) S else .bad
    | _ => .bad
  | .rng2 a b, ρ, S => (evE a ρ S).bind fun x S => (evE b ρ S).bind fun y S => match x, y with
    | .v (.int i), .v (.int j) => if rngOk i && rngOk j && decide (j - i ≤ 16777216) then .ok (.its (range i j)) S else .bad
    | _, _ => .bad
  | .zip a b, ρ, S => (evE a ρ S).bind fun x S => (evE b ρ S).bind fun y S => opt (zipped S x y) fun ds => .ok (.its ds) S
  | .enum a, ρ, S => (evE a ρ S).bind fun x S => opt (enumd S x) fun ds => .ok (.its ds) S
end
inductive Fl where
  | nx (ρ : Env)
  | rt (r : R)
  | bk (ρ : Env)
  | ct (ρ : Env)
def evWhl (test : Env → Store → Res R) (body : Env → Store → Res Fl) : Nat → Env → Store → Res Fl
  | 0, _, _ => .bad
  | f + 1, ρ, S => (test ρ S).bind fun x S => opt (truth S x) fun k =>
      if k then (body ρ S).bind fun fl S => match fl with
        | .nx ρ => evWhl test body f ρ S
        | .ct ρ => evWhl test body f ρ S
        | .bk ρ => .ok (.nx ρ) S
        | .rt r => .ok (.rt r) S
      else .ok (.nx ρ) S
def forL (turn : D → Env → Store → Res Fl) : List D → Env → Store → Res Fl
  | [], ρ, S => .ok (.nx ρ) S
  | d :: r, ρ, S => (turn d ρ S).bind fun fl S => match fl with
    | .nx ρ => forL turn r ρ S
    | .ct ρ => forL turn r ρ S
    | .bk ρ => .ok (.nx ρ) S
    | .rt r => .ok (.rt r) S
def forV (turn : D → Env → Store → Res Fl) (n : Nat) : Nat → Nat → Env → Store → Res Fl
  | 0, i, ρ, S => match S[n]? with
    | some (.lst ds) => match ds[i]? with
      | none => .ok (.nx ρ) S
      | some _ => .bad
    | _ => .bad
  | f + 1, i, ρ, S => match S[n]? with
    | some (.lst ds) => match ds[i]? with
      | none => .ok (.nx ρ) S
      | some d => (turn d ρ S).bind fun fl S => match fl with
        | .nx ρ => forV turn n f (i + 1) ρ S
        | .ct ρ => forV turn n f (i + 1) ρ S
        | .bk ρ => .ok (.nx ρ) S
        | .rt r => .ok (.rt r) S
    | _ => .bad
def forI (turn : D → Env → Store → Res Fl) (it : Iter) (ρ : Env) (S : Store) : Res Fl := match it with
  | .its ds => forL turn ds ρ S
  | .live n => match S[n]? with
    | some (.lst ds) => forV turn n ds.length 0 ρ S
    | _ => .bad
mutual
def evS : S → Env → Store → Res Fl
  | .asg t e, ρ, S => (evE C call e ρ S).bind fun x S => settle x S fun d S => (calm (asT C call t d ρ S)).bind fun ρ S => .ok (.nx ρ) S
  | .par2 i j a b, ρ, S => (evE C call a ρ S).bind fun x S => settle x S fun x S => (evE C call b ρ S).bind fun y S => settle y S fun y S =>
      .ok (.nx ((ρ.set i (some x)).set j (some y))) S
  | .par3 i j k a b c, ρ, S => (evE C call a ρ S).bind fun x S => settle x S fun x S => (evE C call b ρ S).bind fun y S => settle y S fun y S =>
      (evE C call c ρ S).bind fun z S => settle z S fun z S => .ok (.nx (((ρ.set i (some x)).set j (some y)).set k (some z))) S
  | .aug i o e, ρ, S => match ρ[i]? with
    | some (some d) => (evE C call e ρ S).bind fun y S => opt (evAug o d y) fun d => .ok (.nx (ρ.set i (some d))) S
    | _ => .bad
  | .expr e, ρ, S => (evE C call e ρ S).bind fun _ S => .ok (.nx ρ) S
  | .ife c a b, ρ, S => (evE C call c ρ S).bind fun x S => opt (truth S x) fun k => if k then evSs a ρ S else evSs b ρ S
  | .whl c b, ρ, S => evWhl (evE C call c) (evSs b) C.fuel ρ S
  | .for t it b, ρ, S => (evI C call it ρ S).bind fun I S => forI (fun d ρ S => (calm (asT C call t d ρ S)).bind fun ρ S => evSs b ρ S) I ρ S
  | .ret e, ρ, S => (evE C call e ρ S).bind fun x S => .ok (.rt x) S
  | .ret0, _, S => .ok (.rt (.v .non)) S
  | .pass, ρ, S => .ok (.nx ρ) S
  | .brk, ρ, S => .ok (.bk ρ) S
  | .cont, ρ, S => .ok (.ct ρ) S
  | .hole _, _, _ => .bad
  | .clos i js, ρ, S => if tblsOk C.tbls S then .ok (.nx (ρ.set i (some (.clos js)))) S else .bad
  | .raise c e, ρ, S => (evE C call e ρ S).bind fun x S => settle x S fun d S => opt C.excs[c]? fun k => if k then opt (reprR S (.v d)) fun y => if Nat.ble y.length 1000000 && (!C.exi.contains c || isI d) then .err ⟨c, some d⟩ S else .bad
    else .err ⟨c, none⟩ S
  | .forF i fs b, ρ, S => forL (fun d ρ S => evSs b (ρ.set i (some d)) S) (fs.map .fnv) ρ S
def evSs : Ss → Env → Store → Res Fl
  | .nil, ρ, S => .ok (.nx ρ) S
  | .cons s r, ρ, S => (evS s ρ S).bind fun fl S => match fl with
    | .nx ρ => evSs r ρ S
    | fl => .ok fl S
end
end
/-- behind a call: what is no longer reached is dropped -/
def fin (n : Nat) (r : R) (S : Store) : Res R :=
  if Nat.ble S.length n then .ok r S
  else if (S.take n).all (lowC n) then match r with
    | .t ds => if ds.all (lowD n 66) then .ok r (S.take n) else .ok r S
    | .v (.ref m) => if Nat.blt m n then .ok r (S.take n) else match S[m]? with
      | some (.lst ds) => if ds.all (lowD n 66) then .ok (.t ds) (S.take n) else .ok r S
      | _ => .ok r S
    | .v d => if lowD n 66 d then .ok r (S.take n) else .ok r S
  else .ok r S
def start (F : Fn) (ds : List D) : Env := ds.map some ++ List.replicate (F.ns - ds.length) none
def evCall (C : Ctx) : Nat → Nat → List D → Store → Res R
  | 0, _, _, _ => .bad
  | n + 1, f, ds, S => match C.fns[f]? with
    | some F => if ds.length == F.np then
        (evSs C (evCall C n) F.body (start F ds) S).bind fun fl S' => match fl with
          | .rt r => fin S.length r S'
          | .nx _ => fin S.length (.v .non) S'
          | _ => .bad
      else .bad
    | none => if Nat.blt f (C.fns.length + C.lams.length) then evCall C n (f + C.lams.length) ds S else opt C.lams[f - (C.fns.length + C.lams.length)]? fun L => if ds.length == L.is.length then evE C (evCall C n) L.body (lamEnv L ds) S else .bad
end Q
end
section
-- Py
set_option linter.all false
namespace Q
open PySem
abbrev PL := List Pos
def hd (ps : PL) : Pos := ps.headD ⟨0, 0, 0, 0⟩
/-! the positions of a text, in the order that they are used; the statements that are never reached -/
inductive Xi where
  | ps (p : Pos)
  | sc (s : Scope)
def Xi.pos : Xi → Option Pos
  | .ps p => some p
  | _ => none
def Xi.scp : Xi → Option Scope
  | .sc p => some p
  | _ => none
mutual
def xE : Nat → Expr → List Xi
  | 0, _ => []
  | n + 1, e => match e with
    | .Constant _ _ p => [.ps p]
    | .Name _ p => [.ps p]
    | .Tuple es _ p => .ps p :: xEs n es
    | .List es p => .ps p :: xEs n es
    | .Attribute o _ p => .ps p :: xE n o
    | .BinOp a _ b p => .ps p :: (xE n a ++ xE n b)
    | .UnaryOp _ a p => .ps p :: xE n a
    | .Compare a _ bs p => .ps p :: (xE n a ++ xEs n bs)
    | .BoolOp _ es p => .ps p :: xEs n es
    | .IfExp c a b p => .ps p :: (xE n c ++ (xE n a ++ xE n b))
    | .Subscript a i p => match i with
      | .Slice none none (some (.UnaryOp _ (.Constant _ _ p3) p2)) p1 => .ps p :: .ps p1 :: .ps p2 :: .ps p3 :: xE n a
      | .Slice lo hi _ p1 => .ps p :: .ps p1 :: (xE n a ++ (xO n lo ++ xO n hi))
      | i => .ps p :: (xE n a ++ xE n i)
    | .Call f es _ p => match f with
      | .Attribute o _ p1 => .ps p :: .ps p1 :: (xE n o ++ xEs n es)
      | .Name x p1 => if x == ("isinstance" : Str) then match es with
          | [a, .Tuple ts _ p2] => .ps p :: .ps p1 :: .ps p2 :: (xEs n ts ++ xE n a)
          | [a, .Name _ p2] => .ps p :: .ps p1 :: .ps p2 :: xE n a
          | _ => []
        else .ps p :: .ps p1 :: xEs n es
      | _ => []
    | .Dict _ _ p => [.ps p]
    | .Lambda _ _ _ p => [.ps p]
    | .DictComp kx vx gs sc p => match gs with
      | [g] => .ps p :: .sc sc :: (xE n g.iter ++ (xE n g.target ++ (xEs n g.ifs ++ (xE n kx ++ xE n vx))))
      | _ => []
    | .ListComp el gs sc p => match gs with
      | [g] => .ps p :: .sc sc :: (xE n g.iter ++ (xE n g.target ++ (xEs n g.ifs ++ xE n el)))
      | _ => []
    | _ => []
def xEs : Nat → List Expr → List Xi
  | 0, _ => []
  | n + 1, es => match es with
    | [] => []
    | e :: r => xE n e ++ xEs n r
def xO : Nat → Option Expr → List Xi
  | 0, _ => []
  | n + 1, o => match o with
    | none => []
    | some e => xE n e
end
mutual
def xS : Nat → Stmt → List Xi
  | 0, _ => []
  | n + 1, s => match s with
    | .Assign ts v p => .ps p :: (xEs 60 ts ++ xE 60 v)
    | .AugAssign t _ v p => .ps p :: (xE 60 t ++ xE 60 v)
    | .Expr e p => .ps p :: xE 60 e
    | .If c a b p => .ps p :: (xE 60 c ++ (xSs n a ++ xSs n b))
    | .While c b _ p => .ps p :: (xE 60 c ++ xSs n b)
    | .For t it b _ p => .ps p :: (xE 60 t ++ (xE 60 it ++ xSs n b))
    | .Return e p => .ps p :: xO 60 e
    | .Pass p => [.ps p]
    | .Break p => [.ps p]
    | .Continue p => [.ps p]
    | .Raise e _ p => .ps p :: xO 60 e
    | _ => []
def xSs : Nat → List Stmt → List Xi
  | 0, _ => []
  | n + 1, l => match l with
    | [] => []
    | s :: r => xS n s ++ xSs n r
end
mutual
def hS : Nat → Stmt → List Stmt
  | 0, _ => []
  | n + 1, s => match s with
    | .If _ a b _ => hSs n a ++ hSs n b
    | .While _ b _ _ => hSs n b
    | .For _ _ b _ _ => hSs n b
    | .Raise a b p => [.Raise a b p]
    | _ => []
def hSs : Nat → List Stmt → List Stmt
  | 0, _ => []
  | n + 1, l => match l with
    | [] => []
    | s :: r => hS n s ++ hSs n r
end
def Bi1.nm : Bi1 → Str
  | .len => "len" | .abs => "abs" | .int => "int" | .bool => "bool" | .all => "all" | .any => "any" | .tuple => "tuple" | .list => "list" | .repr => "repr"
def Bi2.nm : Bi2 → Str
  | .min => "min" | .max => "max" | .divmod => "divmod"
def Mth.nm : Mth → Str
  | .append => "append"
def Ty.nm : Ty → Str
  | .int => "int" | .bool => "bool" | .str => "str" | .tuple => "tuple" | .list => "list" | .dict => "dict"
/-- a lambda of the row -/
structure LamR where
  params : Arguments
  body : Expr
  scope : Scope
/-- the names of a def: its slots, its scope, the text's defs and constants -/
structure Nm where
  N : List Str
  sc : Scope
  fs : Str → Bool
  fn : List (Str × Nat × Nat)
  gl : List Str
  hs : List Stmt
  scs : List Scope
  /-- slots of lists of lambdas; the lambdas; defs that tell words; errors -/
  cs : List Nat
  lb : Nat
  lam : List LamR
  wr : List Str
  ex : List Str
  exk : List Bool
  /-- the def's own frame -/
  top : Bool
def Nm.scp (m : Nm) (k : Nat) : Scope := m.scs.getD k ⟨.function, [], false, false, []⟩
def Nm.in (m : Nm) (sc : Scope) : Nm := { m with sc := L2.relS sc m.sc, fs := fun x => sc.names.lookup x == some .cell, top := false }
section
variable (m : Nm)
def nmOf (l : List Str) (i : Nat) : Str := l.getD i Str.empty
def fnOf (l : List (Str × Nat × Nat)) (i : Nat) : Str := (l.getD i (Str.empty, 0, 0)).1
def tyExprs : List Ty → PL → List Expr
  | [], _ => []
  | t :: r, ps => .Name t.nm (hd ps) :: tyExprs r ps.tail
def lamExprs (m : Nm) : List Nat → PL → List Expr
  | [], _ => []
  | j :: r, ps => (match m.lam[j - m.lb]? with
    | some L => .Lambda L.params L.body L.scope (hd ps)
    | none => .Constant .none 0 (hd ps)) :: lamExprs m r ps.tail
def defExprs (m : Nm) : List Nat → PL → List Expr
  | [], _ => []
  | f :: r, ps => .Name (fnOf m.fn f) (hd ps) :: defExprs m r ps.tail
mutual
def pE : Nm → E → PL → Expr × PL
  | _, .non, ps => (.Constant .none 0 (hd ps), ps.tail)
  | _, .bl b, ps => (.Constant (.bool b) 0 (hd ps), ps.tail)
  | _, .int i, ps => (.Constant (.int i) 0 (hd ps), ps.tail)
  | _, .str x, ps => (.Constant (.str x) 0 (hd ps), ps.tail)
  | m, .var i, ps => (.Name (nmOf m.N i) (hd ps), ps.tail)
  | m, .glb j, ps => (.Name (nmOf m.gl j) (hd ps), ps.tail)
  | m, .tup es, ps => (.Tuple (pEs m es ps.tail).1 0 (hd ps), (pEs m es ps.tail).2)
  | m, .lst es, ps => (.List (pEs m es ps.tail).1 (hd ps), (pEs m es ps.tail).2)
  | m, .bin o a b, ps => (.BinOp (pE m a ps.tail).1 o (pE m b (pE m a ps.tail).2).1 (hd ps), (pE m b (pE m a ps.tail).2).2)
  | m, .neg a, ps => (.UnaryOp .USub (pE m a ps.tail).1 (hd ps), (pE m a ps.tail).2)
  | m, .not a, ps => (.UnaryOp .Not (pE m a ps.tail).1 (hd ps), (pE m a ps.tail).2)
  | m, .cmp o a b, ps => (.Compare (pE m a ps.tail).1 [o] [(pE m b (pE m a ps.tail).2).1] (hd ps), (pE m b (pE m a ps.tail).2).2)
  | m, .chn o o' a b c, ps => (.Compare (pE m a ps.tail).1 [o, o'] [(pE m b (pE m a ps.tail).2).1, (pE m c (pE m b (pE m a ps.tail).2).2).1] (hd ps), (pE m c (pE m b (pE m a ps.tail).2).2).2)
  | m, .bop o es, ps => (.BoolOp o (pEs m es ps.tail).1 (hd ps), (pEs m es ps.tail).2)
  | m, .ife c a b, ps => (.IfExp (pE m c ps.tail).1 (pE m a (pE m c ps.tail).2).1 (pE m b (pE m a (pE m c ps.tail).2).2).1 (hd ps), (pE m b (pE m a (pE m c ps.tail).2).2).2)
  | m, .idx a i, ps => (.Subscript (pE m a ps.tail).1 (pE m i (pE m a ps.tail).2).1 (hd ps), (pE m i (pE m a ps.tail).2).2)
  | m, .slc a lo hi, ps => (.Subscript (pE m a ps.tail.tail).1 (.Slice (pEo m lo (pE m a ps.tail.tail).2).1 (pEo m hi (pEo m lo (pE m a ps.tail.tail).2).2).1 none (hd ps.tail)) (hd ps), (pEo m hi (pEo m lo (pE m a ps.tail.tail).2).2).2)
  | m, .rev a, ps => (.Subscript (pE m a ps.tail.tail.tail.tail).1 (.Slice none none (some (.UnaryOp .USub (.Constant (.int 1) 0 (hd ps.tail.tail.tail)) (hd ps.tail.tail))) (hd ps.tail)) (hd ps), (pE m a ps.tail.tail.tail.tail).2)
  | m, .call f es, ps => (.Call (.Name (fnOf m.fn f) (hd ps.tail)) (pEs m es ps.tail.tail).1 [] (hd ps), (pEs m es ps.tail.tail).2)
  | m, .bi1 b a, ps => (.Call (.Name b.nm (hd ps.tail)) [(pE m a ps.tail.tail).1] [] (hd ps), (pE m a ps.tail.tail).2)
  | m, .bi2 b a c, ps => (.Call (.Name b.nm (hd ps.tail)) [(pE m a ps.tail.tail).1, (pE m c (pE m a ps.tail.tail).2).1] [] (hd ps), (pE m c (pE m a ps.tail.tail).2).2)
  | m, .isi a t, ps => (.Call (.Name "isinstance" (hd ps.tail)) [(pE m a ps.tail.tail.tail).1, .Name t.nm (hd ps.tail.tail)] [] (hd ps), (pE m a ps.tail.tail.tail).2)
  | m, .isiT a ts, ps => (.Call (.Name "isinstance" (hd ps.tail)) [(pE m a (ps.tail.tail.tail.drop ts.length)).1, .Tuple (tyExprs ts ps.tail.tail.tail) 0 (hd ps.tail.tail)] [] (hd ps), (pE m a (ps.tail.tail.tail.drop ts.length)).2)
  | m, .met k o a, ps => (.Call (.Attribute (pE m o ps.tail.tail).1 k.nm { hd ps.tail with endLine := (hd ps).line }) [(pE m a (pE m o ps.tail.tail).2).1] [] (hd ps), (pE m a (pE m o ps.tail.tail).2).2)
  | _, .dct0, ps => (.Dict [] [] (hd ps), ps.tail)
  | m, .lc elt tg it c k, ps =>
      let sc := m.scp k
      let I := pI m it ps.tail
      let G := pT (m.in sc) tg I.2
      let Cc := pEo (m.in sc) c G.2
      let El := pE (m.in sc) elt Cc.2
      (.ListComp El.1 [⟨G.1, I.1, Cc.1.toList, 0⟩] sc (hd ps), El.2)
  | m, .flc elt tg it c k, ps =>
      let sc := m.scp k
      let I := pI m it ps.tail
      let G := pT (m.in sc) tg I.2
      let Cc := pEo (m.in sc) c G.2
      let El := pE (m.in sc) elt Cc.2
      (.ListComp El.1 [⟨G.1, I.1, Cc.1.toList, 0⟩] sc (hd ps), El.2)
  | m, .flst es, ps => (.List (pEs m es ps.tail).1 (hd ps), (pEs m es ps.tail).2)
  | _, .fdct, ps => (.Dict [] [] (hd ps), ps.tail)
  | m, .flsc a, ps => (.Call (.Name "list" (hd ps.tail)) [(pE m a ps.tail.tail).1] [] (hd ps), (pE m a ps.tail.tail).2)
  | m, .callF f es, ps => (.Call (.Name (fnOf m.fn f) (hd ps.tail)) (pEs m es ps.tail.tail).1 [] (hd ps), (pEs m es ps.tail.tail).2)
  | m, .words w i x k, ps => (.ListComp (.Call (.Name (nmOf m.wr w) (hd (ps.drop 4))) [.Name (nmOf m.N x) (hd (ps.drop 5))] [] (hd (ps.drop 3))) [⟨.Name (nmOf m.N x) (hd (ps.drop 2)), .Name (nmOf m.N i) (hd (ps.drop 1)), [], 0⟩] (m.scp k) (hd ps), ps.drop 6)
  | m, .calv i es, ps => (.Call (.Name (nmOf m.N i) (hd ps.tail)) (pEs m es ps.tail.tail).1 [] (hd ps), (pEs m es ps.tail.tail).2)
  | m, .fld o f, ps => (.Attribute (pE m o ps.tail).1 f (hd ps), (pE m o ps.tail).2)
  | m, .mth o f es, ps => (.Call (.Attribute (pE m o ps.tail.tail).1 f (hd ps.tail)) (pEs m es (pE m o ps.tail.tail).2).1 [] (hd ps), (pEs m es (pE m o ps.tail.tail).2).2)
  | m, .new c es, ps => (.Call (.Name c (hd ps.tail)) (pEs m es ps.tail.tail).1 [] (hd ps), (pEs m es ps.tail.tail).2)
  | m, .tidy a i k, ps =>
      let I := pE m a (ps.drop 5)
      (.Call (.Name "tuple" (hd (ps.drop 1))) [.Call (.Name "sorted" (hd (ps.drop 3))) [.DictComp (.Name (nmOf m.N i) (hd (I.2.drop 1))) (.Constant (.bool true) 0 (hd (I.2.drop 2))) [⟨.Name (nmOf m.N i) (hd I.2), I.1, [], 0⟩] (m.scp k) (hd (ps.drop 4))] [] (hd (ps.drop 2))] [] (hd ps), I.2.drop 3)
  | m, .lwd w j _, ps => (.Call (.Name (nmOf m.wr w) (hd ps.tail)) (lamExprs m [j] (ps.drop 2)) [] (hd ps), ps.drop 3)
  | m, .fbin o a b, ps => (.BinOp (pE m a ps.tail).1 o (pE m b (pE m a ps.tail).2).1 (hd ps), (pE m b (pE m a ps.tail).2).2)
  | m, .fslc a lo hi, ps => (.Subscript (pE m a ps.tail.tail).1 (.Slice (pEo m lo (pE m a ps.tail.tail).2).1 (pEo m hi (pEo m lo (pE m a ps.tail.tail).2).2).1 none (hd ps.tail)) (hd ps), (pEo m hi (pEo m lo (pE m a ps.tail.tail).2).2).2)
  | m, .fcall f es, ps => (.Call (.Name (fnOf m.fn f) (hd ps.tail)) (pEs m es ps.tail.tail).1 [] (hd ps), (pEs m es ps.tail.tail).2)
def pEs : Nm → Es → PL → List Expr × PL
  | _, .nil, ps => ([], ps)
  | m, .cons e r, ps => ((pE m e ps).1 :: (pEs m r (pE m e ps).2).1, (pEs m r (pE m e ps).2).2)
def pEo : Nm → Eo → PL → Option Expr × PL
  | _, .no, ps => (none, ps)
  | m, .so e, ps => (some (pE m e ps).1, (pE m e ps).2)
def pT : Nm → T → PL → Expr × PL
  | m, .nm i, ps => (.Name (nmOf m.N i) (hd ps), ps.tail)
  | m, .tp ts, ps => (.Tuple (pTs m ts ps.tail).1 0 (hd ps), (pTs m ts ps.tail).2)
  | m, .sb o i, ps => (.Subscript (pE m o ps.tail).1 (pE m i (pE m o ps.tail).2).1 (hd ps), (pE m i (pE m o ps.tail).2).2)
  | m, .fa o f, ps => (.Attribute (pE m o ps.tail).1 f (hd ps), (pE m o ps.tail).2)
def pTs : Nm → Ts → PL → List Expr × PL
  | _, .nil, ps => ([], ps)
  | m, .cons e r, ps => ((pT m e ps).1 :: (pTs m r (pT m e ps).2).1, (pTs m r (pT m e ps).2).2)
def pI : Nm → It → PL → Expr × PL
  | m, .seq e, ps => pE m e ps
  | m, .rng1 a, ps => (.Call (.Name "range" (hd ps.tail)) [(pE m a ps.tail.tail).1] [] (hd ps), (pE m a ps.tail.tail).2)
  | m, .rng2 a c, ps => (.Call (.Name "range" (hd ps.tail)) [(pE m a ps.tail.tail).1, (pE m c (pE m a ps.tail.tail).2).1] [] (hd ps), (pE m c (pE m a ps.tail.tail).2).2)
  | m, .zip a c, ps => (.Call (.Name "zip" (hd ps.tail)) [(pE m a ps.tail.tail).1, (pE m c (pE m a ps.tail.tail).2).1] [] (hd ps), (pE m c (pE m a ps.tail.tail).2).2)
  | m, .enum a, ps => (.Call (.Name "enumerate" (hd ps.tail)) [(pE m a ps.tail.tail).1] [] (hd ps), (pE m a ps.tail.tail).2)
end
mutual
def pS : Nm → S → PL → Stmt × PL
  | m, .asg t e, ps => (.Assign [(pT m t ps.tail).1] (pE m e (pT m t ps.tail).2).1 (hd ps), (pE m e (pT m t ps.tail).2).2)
  | m, .par2 i j a b, ps =>
      let x := pE m a (ps.drop 5)
      let y := pE m b x.2
      (.Assign [.Tuple [.Name (nmOf m.N i) (hd (ps.drop 2)), .Name (nmOf m.N j) (hd (ps.drop 3))] 0 (hd (ps.drop 1))] (.Tuple [x.1, y.1] 0 (hd (ps.drop 4))) (hd ps), y.2)
  | m, .par3 i j k a b c, ps =>
      let x := pE m a (ps.drop 6)
      let y := pE m b x.2
      let z := pE m c y.2
      (.Assign [.Tuple [.Name (nmOf m.N i) (hd (ps.drop 2)), .Name (nmOf m.N j) (hd (ps.drop 3)), .Name (nmOf m.N k) (hd (ps.drop 4))] 0 (hd (ps.drop 1))] (.Tuple [x.1, y.1, z.1] 0 (hd (ps.drop 5))) (hd ps), z.2)
  | m, .aug i o e, ps => (.AugAssign (.Name (nmOf m.N i) (hd ps.tail)) o (pE m e ps.tail.tail).1 (hd ps), (pE m e ps.tail.tail).2)
  | m, .expr e, ps => (.Expr (pE m e ps.tail).1 (hd ps), (pE m e ps.tail).2)
  | m, .ife c a b, ps => (.If (pE m c ps.tail).1 (pSs m a (pE m c ps.tail).2).1 (pSs m b (pSs m a (pE m c ps.tail).2).2).1 (hd ps), (pSs m b (pSs m a (pE m c ps.tail).2).2).2)
  | m, .whl c b, ps => (.While (pE m c ps.tail).1 (pSs m b (pE m c ps.tail).2).1 [] (hd ps), (pSs m b (pE m c ps.tail).2).2)
  | m, .for t it b, ps => (.For (pT m t ps.tail).1 (pI m it (pT m t ps.tail).2).1 (pSs m b (pI m it (pT m t ps.tail).2).2).1 [] (hd ps), (pSs m b (pI m it (pT m t ps.tail).2).2).2)
  | m, .ret e, ps => (.Return (some (pE m e ps.tail).1) (hd ps), (pE m e ps.tail).2)
  | _, .ret0, ps => (.Return none (hd ps), ps.tail)
  | _, .pass, ps => (.Pass (hd ps), ps.tail)
  | _, .brk, ps => (.Break (hd ps), ps.tail)
  | _, .cont, ps => (.Continue (hd ps), ps.tail)
  | m, .hole k, ps => (m.hs.getD k (.Pass ⟨0, 0, 0, 0⟩), ps.drop ((xS 60 (m.hs.getD k (.Pass ⟨0, 0, 0, 0⟩))).filterMap Xi.pos).length)
  | m, .clos i js, ps => (.Assign [.Name (nmOf m.N i) (hd ps.tail)] (.List (lamExprs m js (ps.drop 3)) (hd (ps.drop 2))) (hd ps), ps.drop (3 + js.length))
  | m, .raise c e, ps => (.Raise (some (.Call (.Name (nmOf m.ex c) (hd (ps.drop 2))) [(pE m e (ps.drop 3)).1] [] (hd (ps.drop 1)))) none (hd ps), (pE m e (ps.drop 3)).2)
  | m, .forF i fs b, ps => (.For (.Name (nmOf m.N i) (hd (ps.drop 1))) (.Tuple (defExprs m fs (ps.drop 3)) 0 (hd (ps.drop 2))) (pSs m b (ps.drop (3 + fs.length))).1 [] (hd ps), (pSs m b (ps.drop (3 + fs.length))).2)
def pSs : Nm → Ss → PL → List Stmt × PL
  | _, .nil, ps => ([], ps)
  | m, .cons e r, ps => ((pS m e ps).1 :: (pSs m r (pS m e ps).2).1, (pSs m r (pS m e ps).2).2)
end

/-! ### what the rules ask of the names -/
def isG (m : Nm) (x : Str) : Bool := (m.sc.names.lookup x == some .globalImplicit) && !(x == ("__debug__" : Str)) && !(x == ("__name__" : Str))
def kindV (k : Option NameKind) : Bool := k == some .local || k == some .cell || k == some .free
def isV (m : Nm) (i : Nat) : Bool := Nat.blt i m.N.length && kindV (m.sc.names.lookup (nmOf m.N i)) && !(nmOf m.N i == ("__debug__" : Str)) && !(nmOf m.N i == ("__classdict__" : Str)) && !(m.cs.contains i)
def isA (m : Nm) (i : Nat) : Bool := Nat.blt i m.N.length && (m.sc.names.lookup (nmOf m.N i) == some .local || (m.sc.names.lookup (nmOf m.N i) == some .cell && m.fs (nmOf m.N i))) && !(m.cs.contains i)
/-- a slot of lambdas -/
def isCv (m : Nm) (i : Nat) : Bool := Nat.blt i m.N.length && m.sc.names.lookup (nmOf m.N i) == some .local && m.cs.contains i && !(nmOf m.N i == ("__debug__" : Str)) && !(nmOf m.N i == ("__classdict__" : Str))
/-- a slot that a def may be put in -/
def isFa (m : Nm) (i : Nat) : Bool := Nat.blt i m.N.length && (m.sc.names.lookup (nmOf m.N i) == some .local || (m.sc.names.lookup (nmOf m.N i) == some .cell && m.fs (nmOf m.N i))) && m.cs.contains i
/-- a slot that holds a def -/
def isFv (m : Nm) (i : Nat) : Bool := Nat.blt i m.N.length && kindV (m.sc.names.lookup (nmOf m.N i)) && m.cs.contains i && !(nmOf m.N i == ("__debug__" : Str)) && !(nmOf m.N i == ("__classdict__" : Str))
def T.isNames : T → Bool
  | .nm _ => true
  | .tp ts => go ts
  | .sb _ _ => false
  | .fa _ _ => false
where go : Ts → Bool
  | .nil => true
  | .cons t r => t.isNames && go r
/-- pairs are walked into several names -/
def okTI (t : T) (it : It) : Bool := match it with
  | .zip _ _ | .enum _ => (match t with | .tp _ => true | _ => false)
  | _ => true
def notCall : E → Bool
  | .call _ _ => false
  | .callF _ _ => false
  | .calv _ _ => false
  | .fcall _ _ => false
  | .lwd _ _ _ => false
  | .mth _ _ _ => false
  | .new _ _ => false
  | _ => true
def ownOf (m : Nm) (t : T) : List (Str × Nat) := t.slots.map fun i => (nmOf m.N i, i)
mutual
def kE : Nm → E → Bool
  | _, .non | _, .bl _ | _, .int _ | _, .str _ | _, .dct0 => true
  | m, .var i => isV m i
  | m, .glb j => Nat.blt j m.gl.length && isG m (nmOf m.gl j)
  | m, .tup es => kEs m es && Nat.ble es.len 5000
  | m, .lst es => kEs m es && Nat.ble es.len 5000
  | m, .bin _ a b => kE m a && kE m b
  | m, .neg a => kE m a
  | m, .not a => kE m a
  | m, .cmp _ a b => kE m a && kE m b
  | m, .chn _ _ a b c => kE m a && kE m b && kE m c
  | m, .bop _ es => kEs m es && Nat.blt 0 es.len
  | m, .ife c a b => kE m c && kE m a && kE m b
  | m, .idx a i => kE m a && kE m i
  | m, .slc a lo hi => kE m a && kEo m lo && kEo m hi
  | m, .rev a => kE m a
  | m, .call f es => (match m.fn[f]? with
    | some (x, np, nd) => isG m x && Nat.ble es.len np && Nat.ble np (es.len + nd)
    | none => false) && kEs m es && Nat.blt 0 es.len
  | m, .bi1 b a => isG m b.nm && kE m a
  | m, .bi2 b a c => isG m b.nm && kE m a && kE m c
  | m, .isi a t => isG m "isinstance" && isG m t.nm && kE m a
  | m, .isiT a ts => isG m "isinstance" && ts.all (fun t => isG m t.nm) && !ts.isEmpty && Nat.ble ts.length 5000 && kE m a
  | m, .met _ o a => notCall o && kE m o && kE m a
  | m, .lc elt tg it c k => kI m it && okTI tg it && tg.isNames && L2.blkC m.N m.sc (m.scp k) (ownOf m tg) && kT (m.in (m.scp k)) tg && kEo (m.in (m.scp k)) c && kE (m.in (m.scp k)) elt
  | m, .flc elt tg it c k => kI m it && okTI tg it && tg.isNames && L2.blkC m.N m.sc (m.scp k) (ownOf m tg) && kT (m.in (m.scp k)) tg && kEo (m.in (m.scp k)) c && kE (m.in (m.scp k)) elt
  | m, .flst es => kEs m es && Nat.ble es.len 5000
  | _, .fdct => true
  | m, .flsc a => isG m "list" && kE m a
  | m, .callF f es => (match m.fn[f]? with
    | some (x, np, nd) => isG m x && Nat.ble es.len np && Nat.ble np (es.len + nd)
    | none => false) && kEs m es
  | m, .words w i x k => m.top && Nat.blt w m.wr.length && isG (m.in (m.scp k)) (nmOf m.wr w) && isCv m i && isCv (m.in (m.scp k)) x && L2.blkC m.N m.sc (m.scp k) [(nmOf m.N x, x)]
  | m, .calv i es => isFv m i && kEs m es && Nat.blt 0 es.len
  | _, .fld _ _ | _, .mth _ _ _ | _, .new _ _ => false
  | m, .tidy a i k => isG m "tuple" && isG m "sorted" && kE m a && L2.blkC m.N m.sc (m.scp k) [(nmOf m.N i, i)] && isA (m.in (m.scp k)) i && isV (m.in (m.scp k)) i
  | m, .lwd w j _ => m.top && Nat.blt w m.wr.length && isG m (nmOf m.wr w) && (Nat.ble m.lb j && (m.lam[j - m.lb]?).isSome)
  | m, .fbin _ a b => kE m a && kE m b
  | m, .fslc a lo hi => kE m a && kEo m lo && kEo m hi
  | m, .fcall f es => (match m.fn[f]? with
    | some (x, np, nd) => isG m x && Nat.ble es.len np && Nat.ble np (es.len + nd)
    | none => false) && kEs m es
def kEs : Nm → Es → Bool
  | _, .nil => true
  | m, .cons e r => kE m e && kEs m r
def kEo : Nm → Eo → Bool
  | _, .no => true
  | m, .so e => kE m e
def kT : Nm → T → Bool
  | m, .nm i => isA m i
  | m, .tp ts => kTs m ts
  | m, .sb o i => kE m o && kE m i
  | _, .fa _ _ => false
def kTs : Nm → Ts → Bool
  | _, .nil => true
  | m, .cons t r => kT m t && kTs m r
def kI : Nm → It → Bool
  | m, .seq e => kE m e
  | m, .rng1 a => isG m "range" && kE m a
  | m, .rng2 a c => isG m "range" && kE m a && kE m c
  | m, .zip a c => isG m "zip" && kE m a && kE m c
  | m, .enum a => isG m "enumerate" && kE m a
end
end
end Q
end
section
-- Snd1
set_option Elab.async false
set_option linter.all false
set_option maxRecDepth 100000
namespace Q
open PySem PySem.Spec PyProof.Rows L2

/-- what is never written -/
def Imm (H : Hp) (a : Addr) (u : HO) : Prop := (∃ o, H a = some (.frz o u)) ∨ ((∃ xs, u = .tup xs) ∧ H a = some u)
def Im (H H' : Hp) : Prop := ∀ a u, Imm H a u → Imm H' a u
def FzL (K : PySem.W.Frag) (H : Hp) (a : Addr) (xs : List L2.V) : Prop :=
  Imm H a (.lst xs) ∨
    ∃ (o : Obj) (its : Array Value) (n : Nat), K.lookup a = some o ∧ o.cls = .type "list" ∧ o.dict = none ∧ o.data = .seq its n ∧ its.size ≤ sizeLine ∧ Vals xs its.toList
theorem imm_tup {H : Hp} {a : Addr} {xs : List L2.V} : Imm H a (.tup xs) ↔ Rd H a (.tup xs) :=
  ⟨fun h => h.elim .inr fun h => .inl h.2, fun h => h.elim (fun h => .inr ⟨⟨xs, rfl⟩, h⟩) .inl⟩
theorem imm_lst {H : Hp} {a : Addr} {xs : List L2.V} (h : H a = some (.lst xs)) : ∀ u, ¬ Imm H a u := fun u z => by
  rcases z with ⟨o, z⟩ | ⟨⟨ys, e⟩, z⟩
  · rw [h] at z; cases z
  · subst e; rw [h] at z; cases z
theorem im_grow {H H' : Hp} (k : ∀ a o, H a = some o → H' a = some o) : Im H H' := fun a u h => h.elim (fun ⟨o, h⟩ => .inl ⟨o, k _ _ h⟩) fun ⟨e, h⟩ => .inr ⟨e, k _ _ h⟩
theorem FzL.seq {K : PySem.W.Frag} {H : Hp} {a : Addr} {xs : List L2.V} (h : FzL K H a xs) : SqL K H a xs := h.elim (fun h => .inl (h.elim .inr fun h => .inl h.2)) .inr
theorem im_upd {H : Hp} {a : Addr} {o : HO} (n : ∀ u, ¬ Imm H a u) : Im H (upd H a o) := fun b u hb => by
  have ne : b ≠ a := fun z => n u (z ▸ hb)
  rcases hb with ⟨w, hb⟩ | ⟨e, hb⟩
  · exact .inl ⟨w, by rw [upd_ne ne]; exact hb⟩
  · exact .inr ⟨e, by rw [upd_ne ne]; exact hb⟩
section
variable (K : PySem.W.Frag) (H : Hp) (μ : List Addr)
mutual
inductive RD : D → L2.V → Prop where
  | non : RD .non .non
  | bl (b : Bool) : RD (.bl b) (.bl b)
  | int (i : Int) : RD (.int i) (.int i)
  | str (x : Str) : RD (.str x) (.str x)
  | tup {a : Addr} {vs : List L2.V} {ds : List D} : SqT K H a vs → RDs ds vs → RD (.tup ds) (.ref a)
  | ref {n : Nat} {a : Addr} : μ[n]? = some a → RD (.ref n) (.ref a)
  | fl {a : Addr} {vs : List L2.V} {ds : List D} : FzL K H a vs → RDs ds vs → RD (.fl ds) (.ref a)
  | fz {a : Addr} {vs : List L2.V} {ds : List D} : Imm H a (.lst vs) → RDs ds vs → RD (.fz ds) (.ref a)
  | fd {a : Addr} : Imm H a (.dK []) → RD .fd (.ref a)
inductive RDs : List D → List L2.V → Prop where
  | nil : RDs [] []
  | cons {d : D} {v : L2.V} {ds : List D} {vs : List L2.V} : RD d v → RDs ds vs → RDs (d :: ds) (v :: vs)
end
end
/-- tuples stay, what is not of the store (and not the list at D) stays -/
structure StepD (D : Option Addr) (H : Hp) (μ : List Addr) (H' : Hp) (μ' : List Addr) : Prop where
  keepD : ∀ a o, H a = some o → a ∉ μ → some a ≠ D → H' a = some o
  tups : Im H H'
  live : ∀ a, H' a = none → H a = none
  pre : ∃ ν, μ' = μ ++ ν ∧ ∀ a ∈ ν, H a = none
abbrev Step := StepD none
theorem StepD.keep {H H' : Hp} {μ μ' : List Addr} (s : Step H μ H' μ') : ∀ a o, H a = some o → a ∉ μ → H' a = some o := fun a o h n => s.keepD a o h n (by simp)
theorem StepD.mk' {H H' : Hp} {μ μ' : List Addr} (k : ∀ a o, H a = some o → a ∉ μ → H' a = some o) (t : Im H H') (l : ∀ a, H' a = none → H a = none) (p : ∃ ν, μ' = μ ++ ν ∧ ∀ a ∈ ν, H a = none) : Step H μ H' μ' :=
  ⟨fun a o h n _ => k a o h n, t, l, p⟩
theorem StepD.refl {D : Option Addr} {H : Hp} {μ : List Addr} : StepD D H μ H μ := ⟨fun _ _ h _ _ => h, fun _ _ h => h, fun _ h => h, [], by simp, by simp⟩
theorem StepD.notin {D : Option Addr} {H H' : Hp} {μ μ' : List Addr} (s : StepD D H μ H' μ') {a : Addr} {o : HO} (h : H a = some o) (n : a ∉ μ) : a ∉ μ' := by
  obtain ⟨ν, e, hν⟩ := s.pre
  subst e
  intro z
  rcases List.mem_append.mp z with z | z
  · exact n z
  · rw [hν a z] at h; cases h
theorem StepD.trans {D : Option Addr} {H H1 H2 : Hp} {μ μ1 μ2 : List Addr} (s : StepD D H μ H1 μ1) (t : StepD D H1 μ1 H2 μ2) : StepD D H μ H2 μ2 := by
  refine ⟨fun a o h n d => t.keepD a o (s.keepD a o h n d) (s.notin h n) d, fun a xs h => t.tups a xs (s.tups a xs h), fun a h => s.live a (t.live a h), ?_⟩
  obtain ⟨ν, e, hν⟩ := s.pre
  obtain ⟨ν', e', hν'⟩ := t.pre
  subst e
  subst e'
  refine ⟨ν ++ ν', by rw [List.append_assoc], fun a ha => ?_⟩
  rcases List.mem_append.mp ha with z | z
  · exact hν a z
  · exact s.live a (hν' a z)
theorem StepD.weak {D : Option Addr} {H H' : Hp} {μ μ' : List Addr} (s : Step H μ H' μ') : StepD D H μ H' μ' := ⟨fun a o h n _ => s.keep a o h n, s.tups, s.live, s.pre⟩
/-- what was not there ahead need not be left out -/
theorem StepD.drop {D : Option Addr} {H H' : Hp} {μ μ' : List Addr} (s : StepD D H μ H' μ') (h : ∀ d, D = some d → H d = none) : Step H μ H' μ' :=
  StepD.mk' (fun a o e n => s.keepD a o e n fun z => by rw [h a z.symm] at e; cases e) s.tups s.live s.pre
theorem StepD.ix {D : Option Addr} {H H' : Hp} {μ μ' : List Addr} (s : StepD D H μ H' μ') {n : Nat} {a : Addr} (h : μ[n]? = some a) : μ'[n]? = some a := by
  obtain ⟨ν, e, _⟩ := s.pre
  subst e
  rw [List.getElem?_append_left (List.getElem?_eq_some_iff.mp h).1]
  exact h
/-- everything stays -/
theorem StepD.grow {D : Option Addr} {H H' : Hp} {μ : List Addr} (k : ∀ a o, H a = some o → H' a = some o) : StepD D H μ H' μ :=
  ⟨fun a o h _ _ => k a o h, im_grow k, fun a h => (by
    cases e : H a with
    | none => rfl
    | some o => rw [k a o e] at h; cases h), [], by simp, by simp⟩
theorem grow_upd {H : Hp} {p : Addr} {o : HO} (hp : H p = none) : ∀ a u, H a = some u → upd H p o a = some u := fun a u h => by
  rw [upd_ne (ne_of_none h hp)]; exact h
section
variable {K : PySem.W.Frag} {H H' : Hp} {μ μ' : List Addr}
theorem SqT.mono' (t : Im H H') {a : Addr} {xs : List L2.V} (h : SqT K H a xs) : SqT K H' a xs := h.elim (fun h => .inl (imm_tup.mp (t _ _ (imm_tup.mpr h)))) .inr
theorem FzL.mono' (t : Im H H') {a : Addr} {xs : List L2.V} (h : FzL K H a xs) : FzL K H' a xs := h.elim (fun h => .inl (t _ _ h)) .inr
mutual
theorem RD.mono (t : Im H H') (x : ∀ (n : Nat) a, μ[n]? = some a → μ'[n]? = some a) : ∀ {d : D} {v : L2.V}, RD K H μ d v → RD K H' μ' d v
  | _, _, .non => .non
  | _, _, .bl b => .bl b
  | _, _, .int i => .int i
  | _, _, .str y => .str y
  | _, _, .tup h r => .tup (SqT.mono' t h) (RDs.mono t x r)
  | _, _, .ref h => .ref (x _ _ h)
  | _, _, .fl h r => .fl (FzL.mono' t h) (RDs.mono t x r)
  | _, _, .fz h r => .fz (t _ _ h) (RDs.mono t x r)
  | _, _, .fd h => .fd (t _ _ h)
theorem RDs.mono (t : Im H H') (x : ∀ (n : Nat) a, μ[n]? = some a → μ'[n]? = some a) : ∀ {d : List D} {v : List L2.V}, RDs K H μ d v → RDs K H' μ' d v
  | _, _, .nil => .nil
  | _, _, .cons h r => .cons (RD.mono t x h) (RDs.mono t x r)
end
theorem RD.step {d : D} {v : L2.V} {Dx : Option Addr} (r : RD K H μ d v) (s : StepD Dx H μ H' μ') : RD K H' μ' d v := RD.mono s.tups (fun _ _ h => s.ix h) r
theorem RDs.step {d : List D} {v : List L2.V} {Dx : Option Addr} (r : RDs K H μ d v) (s : StepD Dx H μ H' μ') : RDs K H' μ' d v := RDs.mono s.tups (fun _ _ h => s.ix h) r
theorem RDs.length : ∀ {ds : List D} {vs : List L2.V}, RDs K H μ ds vs → ds.length = vs.length
  | _, _, .nil => rfl
  | _, _, .cons _ r => by rw [List.length_cons, List.length_cons, RDs.length r]
theorem RDs.get : ∀ {ds : List D} {vs : List L2.V} {i : Nat} {d : D}, RDs K H μ ds vs → ds[i]? = some d → ∃ v, vs[i]? = some v ∧ RD K H μ d v
  | _, _, _, _, .nil, e => by simp at e
  | _, _, 0, _, .cons r _, e => by simp at e; subst e; exact ⟨_, rfl, r⟩
  | _, _, i + 1, _, .cons _ r, e => by
    obtain ⟨v, h1, h2⟩ := RDs.get (i := i) r (by simpa using e)
    exact ⟨v, by simpa using h1, h2⟩
theorem RDs.append : ∀ {ds es : List D} {vs ws : List L2.V}, RDs K H μ ds vs → RDs K H μ es ws → RDs K H μ (ds ++ es) (vs ++ ws)
  | _, _, _, _, .nil, q => q
  | _, _, _, _, .cons r t, q => .cons r (RDs.append t q)
theorem RDs.take : ∀ {ds : List D} {vs : List L2.V} (n : Nat), RDs K H μ ds vs → RDs K H μ (ds.take n) (vs.take n)
  | _, _, 0, _ => by rw [List.take_zero, List.take_zero]; exact .nil
  | _, _, _ + 1, .nil => .nil
  | _, _, n + 1, .cons r t => .cons r (RDs.take n t)
theorem RDs.drop : ∀ {ds : List D} {vs : List L2.V} (n : Nat), RDs K H μ ds vs → RDs K H μ (ds.drop n) (vs.drop n)
  | _, _, 0, q => q
  | _, _, _ + 1, .nil => .nil
  | _, _, n + 1, .cons _ t => RDs.drop n t
theorem RDs.set {d : D} {v : L2.V} (r : RD K H μ d v) : ∀ {ds : List D} {vs : List L2.V} (n : Nat), RDs K H μ ds vs → RDs K H μ (ds.set n d) (vs.set n v)
  | _, _, _, .nil => .nil
  | _, _, 0, .cons _ t => .cons r t
  | _, _, n + 1, .cons q t => .cons q (RDs.set r n t)
theorem RDs.rev {ds : List D} {vs : List L2.V} (h : RDs K H μ ds vs) : RDs K H μ ds.reverse vs.reverse := by
  induction h using RDs.rec (motive_1 := fun _ _ _ => True) with
  | nil => exact .nil
  | cons r _ _ ih => rw [List.reverse_cons, List.reverse_cons]; exact ih.append (.cons r .nil)
  | _ => trivial
theorem RDs.rep {ds : List D} {vs : List L2.V} (h : RDs K H μ ds vs) : ∀ n, RDs K H μ (List.replicate n ds).flatten (List.replicate n vs).flatten
  | 0 => .nil
  | n + 1 => by rw [List.replicate_succ, List.replicate_succ, List.flatten_cons, List.flatten_cons]; exact h.append (RDs.rep h n)
end

/-- the attributes of an instance -/
def RFs (K : PySem.W.Frag) (H : Hp) (μ : List Addr) : List (Str × D) → List (Str × L2.V) → Prop := PySem.Paired fun p q => p.1 = q.1 ∧ RD K H μ p.2 q.2
def CR (K : PySem.W.Frag) (H : Hp) (μ : List Addr) : Cell → HO → Prop
  | .lst ds, o => ∃ vs, o = .lst vs ∧ RDs K H μ ds vs
  | .dct kvs, o => kvs = [] ∧ o = .dK []
  | .tbl q, o => ∃ ps : Array Value, o = .tbl ps ∧ TriplesOk ps.toList ∧ ∀ (pos : Pos) (cv : Value), codeAmong pos ps.toList = some cv → ∃ c, cv = .ref c ∧ Imm H c (LamX.CodeO c q)
  | .ins nm fs, o => ∃ (Ca dx : Addr) (gs : List (Str × L2.V)), o = .ins Ca dx gs ∧ PySem.W.nsIn K mainGlobals nm = some (some (.ref Ca)) ∧ RFs K H μ fs gs
/-- the store as it lies in the heap -/
structure SR (K : PySem.W.Frag) (H : Hp) (μ : List Addr) (S : Store) : Prop where
  len : μ.length = S.length
  nd : μ.Nodup
  cell : ∀ (n : Nat) c a, S[n]? = some c → μ[n]? = some a → ∃ o, H a = some o ∧ CR K H μ c o
section
variable {K : PySem.W.Frag} {H H' : Hp} {μ μ' : List Addr} {S : Store}
theorem SR.get (h : SR K H μ S) {n : Nat} {c : Cell} (e : S[n]? = some c) : ∃ a o, μ[n]? = some a ∧ H a = some o ∧ CR K H μ c o := by
  have hn := (List.getElem?_eq_some_iff.mp e).1
  have hm : n < μ.length := by rw [h.len]; exact hn
  have ea : μ[n]? = some μ[n] := List.getElem?_eq_getElem hm
  obtain ⟨o, h1, h2⟩ := h.cell n c _ e ea
  exact ⟨_, o, ea, h1, h2⟩
theorem SR.there (h : SR K H μ S) {a : Addr} (m : a ∈ μ) : ∃ o, H a = some o ∧ ((∃ vs, o = .lst vs) ∨ o = .dK [] ∨ (∃ ps, o = .tbl ps) ∨ ∃ Ca dx gs, o = .ins Ca dx gs) := by
  obtain ⟨n, hn, e⟩ := List.getElem_of_mem m
  have ea : μ[n]? = some a := by rw [List.getElem?_eq_getElem hn, e]
  have hs : n < S.length := by rw [← h.len]; exact hn
  obtain ⟨o, h1, h2⟩ := h.cell n S[n] a (List.getElem?_eq_getElem hs) ea
  refine ⟨o, h1, ?_⟩
  cases ec : S[n] with
  | lst ds => rw [ec] at h2; obtain ⟨vs, e, _⟩ := h2; exact .inl ⟨vs, e⟩
  | dct k => rw [ec] at h2; exact .inr (.inl h2.2)
  | tbl q => rw [ec] at h2; obtain ⟨ps, e, _⟩ := h2; exact .inr (.inr (.inl ⟨ps, e⟩))
  | ins nm fs => rw [ec] at h2; obtain ⟨Ca, dx, gs, e, _⟩ := h2; exact .inr (.inr (.inr ⟨Ca, dx, gs, e⟩))
theorem RFs.mono (t : Im H H') (x : ∀ (n : Nat) a, μ[n]? = some a → μ'[n]? = some a) {fs : List (Str × D)} {gs : List (Str × L2.V)} (h : RFs K H μ fs gs) : RFs K H' μ' fs gs := by
  induction h with
  | nil => exact .nil
  | cons r _ ih => exact .cons ⟨r.1, r.2.mono t x⟩ ih
theorem CR.mono (t : Im H H') (x : ∀ (n : Nat) a, μ[n]? = some a → μ'[n]? = some a) {c : Cell} {o : HO} (h : CR K H μ c o) : CR K H' μ' c o := by
  cases c with
  | lst ds => obtain ⟨vs, e, r⟩ := h; exact ⟨vs, e, r.mono t x⟩
  | dct k => exact h
  | tbl q =>
    obtain ⟨ps, e, h1, h2⟩ := h
    exact ⟨ps, e, h1, fun pos cv hc => by
      obtain ⟨c, e1, e2⟩ := h2 pos cv hc
      exact ⟨c, e1, t _ _ e2⟩⟩
  | ins nm fs =>
    obtain ⟨Ca, dx, gs, e, h1, h2⟩ := h
    exact ⟨Ca, dx, gs, e, h1, h2.mono t x⟩
/-- everything stays -/
theorem SR.grow (h : SR K H μ S) (k : ∀ a o, H a = some o → H' a = some o) : SR K H' μ S :=
  ⟨h.len, h.nd, fun n c a e1 e2 => by
    obtain ⟨o, h1, h2⟩ := h.cell n c a e1 e2
    exact ⟨o, k a o h1, h2.mono (StepD.grow (D := none) (μ := μ) k).tups fun _ _ z => z⟩⟩
/-- a new cell -/
theorem SR.alloc (h : SR K H μ S) {a : Addr} {o : HO} {c : Cell} (ha : H a = some o) (hn : a ∉ μ) (hc : CR K H μ c o) : SR K H (μ ++ [a]) (S ++ [c]) := by
  have mono : ∀ (n : Nat) b, μ[n]? = Option.some b → (μ ++ [a])[n]? = Option.some b := fun n b e => by
    rw [List.getElem?_append_left (List.getElem?_eq_some_iff.mp e).1]; exact e
  refine ⟨by simp [h.len], List.nodup_append.mpr ⟨h.nd, by simp, fun x hx y hy => by
    rw [List.mem_singleton] at hy; subst hy; exact fun z => hn (z ▸ hx)⟩, fun n d b e1 e2 => ?_⟩
  by_cases hlt : n < S.length
  · rw [List.getElem?_append_left hlt] at e1
    rw [List.getElem?_append_left (by rw [h.len]; exact hlt)] at e2
    obtain ⟨u, h1, h2⟩ := h.cell n d b e1 e2
    exact ⟨u, h1, h2.mono (fun _ _ z => z) mono⟩
  · have hn' : n = S.length := by
      have := (List.getElem?_eq_some_iff.mp e1).1
      simp at this; omega
    subst hn'
    rw [List.getElem?_append_right (Nat.le_refl _), Nat.sub_self] at e1
    rw [← h.len, List.getElem?_append_right (Nat.le_refl _), Nat.sub_self] at e2
    cases e1
    cases e2
    exact ⟨o, ha, hc.mono (fun _ _ z => z) mono⟩
/-- a cell written -/
theorem SR.write (h : SR K H μ S) {n : Nat} {a : Addr} {o : HO} {c : Cell} (ea : μ[n]? = Option.some a) (hc : CR K H μ c o) (nt : ∀ u, ¬ Imm H a u) : SR K (upd H a o) μ (S.set n c) ∧ Step H μ (upd H a o) μ := by
  have ham : a ∈ μ := List.mem_of_getElem? ea
  have tups : Im H (upd H a o) := im_upd nt
  refine ⟨⟨by rw [List.length_set, h.len], h.nd, fun k d b e1 e2 => ?_⟩, StepD.mk' (fun b u hb hn => ?_) tups (fun b hb => ?_) ⟨[], by simp, by simp⟩⟩
  · by_cases hk : k = n
    · subst hk
      rw [ea] at e2; cases e2
      rw [List.getElem?_set_self (by have := (List.getElem?_eq_some_iff.mp e1).1; simpa using this)] at e1
      cases e1
      exact ⟨o, upd_same, hc.mono tups fun _ _ z => z⟩
    · rw [List.getElem?_set_ne (Ne.symm hk)] at e1
      have hne : b ≠ a := fun z => by
        subst z
        obtain ⟨h1, g1⟩ := List.getElem?_eq_some_iff.mp ea
        obtain ⟨h2, g2⟩ := List.getElem?_eq_some_iff.mp e2
        exact hk ((List.getElem_inj h.nd).mp (g2.trans g1.symm))
      obtain ⟨u, h1, h2⟩ := h.cell k d b e1 e2
      exact ⟨u, by rw [upd_ne hne]; exact h1, h2.mono tups fun _ _ z => z⟩
  · rw [upd_ne (fun z => hn (by rw [z]; exact ham))]; exact hb
  · by_cases z : b = a
    · rw [z, upd_same] at hb; cases hb
    · rw [upd_ne z] at hb; exact hb
end
end Q
end
section
-- Snd2
set_option Elab.async false
set_option linter.all false
set_option maxRecDepth 100000
namespace Q
open PySem PySem.Spec PyProof.Rows L2

/-- slots of lists of lambdas, of defs; how a lambda lies at an address -/
structure LP where
  cs : List Nat
  /-- the lambda at an address, its code at another -/
  lam : Nat → Addr → Addr → HO
  dom : Nat → Prop
  q : Str
  fnv : Nat → L2.V → Prop
  /-- where the tables stand -/
  tabs : List Addr
/-- a list of lambdas, a def as a value -/
def RC (lp : LP) (H : Hp) : D → L2.V → Prop
  | .clos js, v => (∀ j ∈ js, lp.dom j) ∧ ∃ (a : Addr) (fs : List Addr), v = .ref a ∧ Imm H a (.lst (fs.map L2.V.ref)) ∧ PySem.Paired (fun j f => ∃ c, Imm H f (lp.lam j f c) ∧ Imm H c (LamX.CodeO c lp.q)) js fs
  | .fnv i, v => lp.fnv i v
  | _, _ => False
theorem RC.mono {lp : LP} {H H' : Hp} (t : Im H H') {d : D} {v : L2.V} (h : RC lp H d v) : RC lp H' d v := by
  cases d with
  | clos js =>
    obtain ⟨h0, a, fs, e, h1, h2⟩ := h
    refine ⟨h0, a, fs, e, t _ _ h1, ?_⟩
    clear e h1 h0
    induction h2 with
    | nil => exact .nil
    | cons r _ ih =>
      obtain ⟨c, r1, r2⟩ := r
      exact .cons ⟨c, t _ _ r1, t _ _ r2⟩ ih
  | fnv i => exact h
  | _ => exact h
/-- the slots -/
structure RE (lp : LP) (K : PySem.W.Frag) (H : Hp) (μ : List Addr) (ρ : Env) (σ : L2.St) : Prop where
  len : ρ.length = σ.length
  at_ : ∀ (i : Nat) d, lp.cs.contains i = false → ρ[i]? = some (some d) → ∃ v, σ[i]? = some (some v) ∧ RD K H μ d v
  clo : ∀ (i : Nat) d, lp.cs.contains i = true → ρ[i]? = some (some d) → ∃ v, σ[i]? = some (some v) ∧ RC lp H d v
  pre : ∃ ν, μ = lp.tabs ++ ν
/-- what an expression gives, from the heap Hb on -/
def RR (K : PySem.W.Frag) (Hb H : Hp) (μ : List Addr) : R → L2.V → Prop
  | .v d, v => RD K H μ d v
  | .t ds, v => ∃ a vs, v = .ref a ∧ Hb a = none ∧ H a = some (.lst vs) ∧ a ∉ μ ∧ RDs K H μ ds vs
/-- how an exception lies: each error's class, its one field -/
structure RXT where
  n : Nat
  tb : Nat → Addr × Str
  lp : LP
def RXT.x (RX : RXT) (K : PySem.W.Frag) (μ : List Addr) (e : Exn) (cls : Value) (d : Option Addr) (H : Hp) : Prop :=
  e.cls < RX.n ∧ cls = .ref (RX.tb e.cls).1 ∧ ∀ dv, e.val = some dv → ∃ (dd : Addr) (v : L2.V), d = some dd ∧ H dd = some (.xd [((RX.tb e.cls).2, v)]) ∧ RD K H μ dv v
mutual
theorem RD.free {K : PySem.W.Frag} {H : Hp} {μ μ2 : List Addr} : ∀ {d : D} {v : L2.V} (f : Nat), RD K H μ2 d v → lowD 0 f d = true → RD K H μ d v
  | _, _, 0, _, h => by cases h
  | _, _, f + 1, .non, _ => .non
  | _, _, f + 1, .bl b, _ => .bl b
  | _, _, f + 1, .int i, _ => .int i
  | _, _, f + 1, .str x, _ => .str x
  | _, _, f + 1, .tup h r, e => .tup h (RDs.free f r e)
  | _, _, f + 1, .fl h r, e => .fl h (RDs.free f r e)
  | _, _, f + 1, .fz h r, e => .fz h (RDs.free f r e)
  | _, _, f + 1, .fd h, _ => .fd h
  | _, _, f + 1, .ref (n := n) h, e => by
    have e : Nat.blt n 0 = true := e
    exact absurd (Nat.blt_eq.mp e) (Nat.not_lt_zero _)
theorem RDs.free {K : PySem.W.Frag} {H : Hp} {μ μ2 : List Addr} : ∀ {d : List D} {v : List L2.V} (f : Nat), RDs K H μ2 d v → d.all (lowD 0 f) = true → RDs K H μ d v
  | _, _, f, .nil, _ => .nil
  | _, _, f, .cons r t, e => by
    rw [List.all_cons, Bool.and_eq_true] at e
    exact .cons (RD.free f r e.1) (RDs.free f t e.2)
end
theorem RXT.mono (RX : RXT) (K : PySem.W.Frag) (μ μ' : List Addr) (e : Exn) (cls : Value) (d : Option Addr) (H : Hp) (h : ∀ v, e.val = some v → lowD 0 66 v = true) (x : RX.x K μ e cls d H) : RX.x K μ' e cls d H := by
  refine ⟨x.1, x.2.1, fun dv ev => ?_⟩
  obtain ⟨dd, v, h1, h2, h3⟩ := x.2.2 dv ev
  exact ⟨dd, v, h1, h2, h3.free 66 (h dv ev)⟩
section
variable {lp : LP} {K : PySem.W.Frag} {H H' H1 : Hp} {μ μ' μ1 : List Addr} {S S' : Store} {ρ : Env} {σ : L2.St}
theorem RE.step {Dx : Option Addr} (h : RE lp K H μ ρ σ) (s : StepD Dx H μ H' μ') : RE lp K H' μ' ρ σ := ⟨h.len, fun i d c e => by
  obtain ⟨v, h1, h2⟩ := h.at_ i d c e
  exact ⟨v, h1, h2.step s⟩, fun i d c e => by
  obtain ⟨v, h1, h2⟩ := h.clo i d c e
  exact ⟨v, h1, h2.mono s.tups⟩, by
  obtain ⟨ν, e⟩ := h.pre
  obtain ⟨ν', e', _⟩ := s.pre
  exact ⟨ν ++ ν', by rw [e', e, List.append_assoc]⟩⟩
theorem RE.set (h : RE lp K H μ ρ σ) {d : D} {v : L2.V} (r : RD K H μ d v) (i : Nat) (hi : lp.cs.contains i = false) : RE lp K H μ (ρ.set i (some d)) (σ.set i (some v)) := by
  refine ⟨by simp [h.len], fun j e hc hj => ?_, fun j e hc hj => ?_, h.pre⟩
  · by_cases z : i = j
    · subst z
      have hl : i < ρ.length := by have := (List.getElem?_eq_some_iff.mp hj).1; simpa using this
      rw [List.getElem?_set_self hl] at hj
      cases hj
      exact ⟨v, List.getElem?_set_self (by rw [← h.len]; exact hl), r⟩
    · rw [List.getElem?_set_ne z] at hj
      obtain ⟨u, h1, h2⟩ := h.at_ j e hc hj
      exact ⟨u, by rw [List.getElem?_set_ne z]; exact h1, h2⟩
  · have z : i ≠ j := fun z => by rw [z, hc] at hi; cases hi
    rw [List.getElem?_set_ne z] at hj
    obtain ⟨u, h1, h2⟩ := h.clo j e hc hj
    exact ⟨u, by rw [List.getElem?_set_ne z]; exact h1, h2⟩
theorem RE.setC (h : RE lp K H μ ρ σ) {d : D} {v : L2.V} (r : RC lp H d v) (i : Nat) (hi : lp.cs.contains i = true) : RE lp K H μ (ρ.set i (some d)) (σ.set i (some v)) := by
  refine ⟨by simp [h.len], fun j e hc hj => ?_, fun j e hc hj => ?_, h.pre⟩
  · have z : i ≠ j := fun z => by rw [z, hc] at hi; cases hi
    rw [List.getElem?_set_ne z] at hj
    obtain ⟨u, h1, h2⟩ := h.at_ j e hc hj
    exact ⟨u, by rw [List.getElem?_set_ne z]; exact h1, h2⟩
  · by_cases z : i = j
    · subst z
      have hl : i < ρ.length := by have := (List.getElem?_eq_some_iff.mp hj).1; simpa using this
      rw [List.getElem?_set_self hl] at hj
      cases hj
      exact ⟨v, List.getElem?_set_self (by rw [← h.len]; exact hl), r⟩
    · rw [List.getElem?_set_ne z] at hj
      obtain ⟨u, h1, h2⟩ := h.clo j e hc hj
      exact ⟨u, by rw [List.getElem?_set_ne z]; exact h1, h2⟩
theorem wipe_some {i j : Nat} {ρ : Env} {e : D} (hj : (ρ.set i none)[j]? = some (some e)) : i ≠ j ∧ ρ[j]? = some (some e) := by
  by_cases z : i = j
  · subst z
    by_cases hl : i < ρ.length
    · rw [List.getElem?_set_self hl] at hj; cases hj
    · rw [List.getElem?_eq_none (by simpa using hl)] at hj; cases hj
  · rw [List.getElem?_set_ne z] at hj
    exact ⟨z, hj⟩
theorem RE.wipe (h : RE lp K H μ ρ σ) : ∀ l : List Nat, RE lp K H μ (Q.wipe ρ l) (L2.wipe σ l)
  | [] => h
  | i :: r => by
    have ih := RE.wipe h r
    refine ⟨by show ((Q.wipe ρ r).set i none).length = ((L2.wipe σ r).set i none).length; simp [ih.len], fun j e hc hj => ?_, fun j e hc hj => ?_, ih.pre⟩
    · obtain ⟨z, hj⟩ := wipe_some (show ((Q.wipe ρ r).set i none)[j]? = some (some e) from hj)
      obtain ⟨u, h1, h2⟩ := ih.at_ j e hc hj
      exact ⟨u, by show ((L2.wipe σ r).set i none)[j]? = _; rw [List.getElem?_set_ne z]; exact h1, h2⟩
    · obtain ⟨z, hj⟩ := wipe_some (show ((Q.wipe ρ r).set i none)[j]? = some (some e) from hj)
      obtain ⟨u, h1, h2⟩ := ih.clo j e hc hj
      exact ⟨u, by show ((L2.wipe σ r).set i none)[j]? = _; rw [List.getElem?_set_ne z]; exact h1, h2⟩
theorem RR.step {Hb : Hp} {r : R} {v : L2.V} (h : RR K Hb H μ r v) (s : Step H μ H' μ') : RR K Hb H' μ' r v := by
  cases r with
  | v d => exact RD.step (show RD K H μ d v from h) s
  | t ds =>
    obtain ⟨a, vs, e, h0, h1, h2, h3⟩ := h
    exact ⟨a, vs, e, h0, s.keep a _ h1 h2, s.notin h1 h2, h3.step s⟩
theorem RR.base {Hb Hc : Hp} {r : R} {v : L2.V} (h : RR K Hb H μ r v) (l : ∀ a, Hb a = none → Hc a = none) : RR K Hc H μ r v := by
  cases r with
  | v d => exact h
  | t ds =>
    obtain ⟨a, vs, e, h0, h1, h2, h3⟩ := h
    exact ⟨a, vs, e, l a h0, h1, h2, h3⟩

/-- what comes of a result, from H, μ on -/
def Out (RX : RXT) (K : PySem.W.Frag) (E : XK) (H : Hp) (μ : List Addr) {α : Type} (r : Res α) (post : α → Store → Hp → List Addr → Prop) : Prop :=
  match r with
  | .ok a S' => ∀ H' μ', Step H μ H' μ' → SR K H' μ' S' → post a S' H' μ'
  | .err x S' => ∀ H' μ' cls d, Step H μ H' μ' → SR K H' μ' S' → RX.x K μ' x cls d H' → E cls d H'
  | .bad => False
variable {RX : RXT} {E E' : XK} {α β : Type} {H0 : Hp} {μ0 : List Addr}
theorem Out.imp {r : Res α} {p q : α → Store → Hp → List Addr → Prop} (h : Out RX K E H μ r p) (f : ∀ a S' H' μ', Step H μ H' μ' → SR K H' μ' S' → p a S' H' μ' → q a S' H' μ') : Out RX K E H μ r q := by
  cases r with
  | ok a S' => exact fun H' μ' s t => f a S' H' μ' s t (h H' μ' s t)
  | err x S' => exact h
  | bad => exact h
theorem Out.impE {r : Res α} {p : α → Store → Hp → List Addr → Prop} (h : Out RX K E H μ r p) (f : ∀ c d H', E c d H' → E' c d H') : Out RX K E' H μ r p := by
  cases r with
  | ok a S' => exact h
  | err x S' => exact fun H' μ' c d s t z => f c d H' (h H' μ' c d s t z)
  | bad => exact h
/-- one after another -/
theorem Out.bind {r : Res α} {g : α → Store → Res β} {p : β → Store → Hp → List Addr → Prop} (st : Step H0 μ0 H μ) (h : Out RX K E H0 μ0 (r.bind g) p) :
    Out RX K E H μ r fun a S' H' μ' => Step H0 μ0 H' μ' ∧ SR K H' μ' S' ∧ Step H μ H' μ' ∧ Out RX K E H0 μ0 (g a S') p := by
  cases r with
  | ok a S' => exact fun H' μ' s t => ⟨st.trans s, t, s, h⟩
  | err x S' => exact fun H' μ' c d s t z => h H' μ' c d (st.trans s) t z
  | bad => exact h
theorem Out.at {r : Res α} {p : α → Store → Hp → List Addr → Prop} (st : Step H0 μ0 H μ) (h : Out RX K E H0 μ0 r p) : Out RX K E H μ r fun a S' H' μ' => p a S' H' μ' := by
  cases r with
  | ok a S' => exact fun H' μ' s t => h H' μ' (st.trans s) t
  | err x S' => exact fun H' μ' c d s t z => h H' μ' c d (st.trans s) t z
  | bad => exact h
theorem Out.opt {o : Option α} {g : α → Res β} {p : β → Store → Hp → List Addr → Prop} (h : Out RX K E H μ (Q.opt o g) p) : ∃ a, o = some a ∧ Out RX K E H μ (g a) p := by
  cases o with
  | none => exact False.elim h
  | some a => exact ⟨a, rfl, h⟩
/-- a list that nobody holds comes into the store -/
theorem Out.settle {Hb : Hp} {r : R} {v : L2.V} {g : D → Store → Res β} {p : β → Store → Hp → List Addr → Prop} (st : Step H0 μ0 H μ) (t : SR K H μ S) (hr : RR K Hb H μ r v) (hb : ∀ a, Hb a = none → H0 a = none) (h : Out RX K E H0 μ0 (Q.settle r S g) p) :
    ∃ d S' μ', Step H0 μ0 H μ' ∧ SR K H μ' S' ∧ RD K H μ' d v ∧ (∀ (n : Nat) a, μ[n]? = some a → μ'[n]? = some a) ∧ (∀ b ∈ μ', b ∈ μ ∨ Hb b = none) ∧ Out RX K E H0 μ0 (g d S') p := by
  cases r with
  | v d => exact ⟨d, S, μ, st, t, hr, fun _ _ z => z, fun _ z => .inl z, h⟩
  | t ds =>
    obtain ⟨a, vs, e, h0, h1, h2, h3⟩ := hr
    subst e
    obtain ⟨ν, e, hν⟩ := st.pre
    have mono : ∀ (n : Nat) b, μ[n]? = some b → (μ ++ [a])[n]? = some b := fun n b z => by
      rw [List.getElem?_append_left (List.getElem?_eq_some_iff.mp z).1]; exact z
    refine ⟨_, _, μ ++ [a], StepD.mk' st.keep st.tups st.live ⟨ν ++ [a], by rw [e, List.append_assoc], fun b hb' => ?_⟩, t.alloc (c := .lst ds) h1 h2 ⟨vs, rfl, h3⟩, .ref ?_, mono, fun b z => ?_, h⟩
    · rcases List.mem_append.mp hb' with z | z
      · exact hν b z
      · rw [List.mem_singleton] at z; subst z; exact hb _ h0
    · rw [← t.len, List.getElem?_append_right (Nat.le_refl _), Nat.sub_self]; rfl
    · rcases List.mem_append.mp z with z | z
      · exact .inl z
      · rw [List.mem_singleton] at z; subst z; exact .inr h0
/-- no exception -/
theorem Out.calm {r : Res α} {g : α → Store → Res β} {p : β → Store → Hp → List Addr → Prop} (h : Out RX K E H μ ((Q.calm r).bind g) p) : Out RX K (fun _ _ _ => False) H μ r fun a S' H' μ' => Out RX K E H μ (g a S') p := by
  cases r with
  | ok a S' => exact fun H' μ' s t => h
  | err x S' => exact h.elim
  | bad => exact h
end
theorem Res.assoc {α β γ : Type} (r : Res α) (f : α → Store → Res β) (g : β → Store → Res γ) : (r.bind f).bind g = r.bind fun a S => (f a S).bind g := by
  cases r <;> rfl
theorem settle_bind {β γ : Type} (r : R) (S : Store) (f : D → Store → Res β) (g : β → Store → Res γ) : (settle r S f).bind g = settle r S fun d S => (f d S).bind g := by
  cases r <;> rfl
/-- the slots but those of l are the same -/
structure SameS (σ σ' : L2.St) (l : List Nat) : Prop where
  len : σ'.length = σ.length
  at_ : ∀ i, i ∉ l → σ'[i]? = σ[i]?
theorem wipe_get (σ : L2.St) (i : Nat) : ∀ l : List Nat, (L2.wipe σ l)[i]? = if i ∈ l then (if i < σ.length then some none else none) else σ[i]?
  | [] => by simp [L2.wipe]
  | j :: l => by
    show ((L2.wipe σ l).set j none)[i]? = _
    by_cases h : j = i
    · subst h
      rw [if_pos List.mem_cons_self]
      by_cases hl : j < σ.length
      · rw [if_pos hl, List.getElem?_set_self (by rw [L2.wipe_length]; exact hl)]
      · rw [if_neg hl, List.getElem?_eq_none (by rw [List.length_set, L2.wipe_length]; omega)]
    · rw [List.getElem?_set_ne h, wipe_get σ i l]
      have : (i ∈ j :: l) ↔ i ∈ l := by
        rw [List.mem_cons]
        exact ⟨fun z => z.elim (fun z => absurd z.symm h) id, .inr⟩
      by_cases hm : i ∈ l
      · rw [if_pos hm, if_pos (this.mpr hm)]
      · rw [if_neg hm, if_neg (fun z => hm (this.mp z))]
theorem SameS.wipe {σ σ' : L2.St} {l : List Nat} (h : SameS σ σ' l) : L2.wipe σ' l = L2.wipe σ l := by
  apply List.ext_getElem?
  intro i
  rw [wipe_get, wipe_get, h.len]
  by_cases hm : i ∈ l
  · rw [if_pos hm, if_pos hm]
  · rw [if_neg hm, if_neg hm, h.at_ i hm]
theorem wipe_wipe (σ : L2.St) (l : List Nat) : L2.wipe (L2.wipe σ l) l = L2.wipe σ l := by
  apply List.ext_getElem?
  intro i
  rw [wipe_get, wipe_get, L2.wipe_length]
  by_cases hm : i ∈ l
  · rw [if_pos hm, if_pos hm]
  · rw [if_neg hm, if_neg hm]
theorem SameS.refl {σ : L2.St} {l : List Nat} : SameS σ σ l := ⟨rfl, fun _ _ => rfl⟩
theorem SameS.set {σ : L2.St} (i : Nat) (v : Option L2.V) : SameS σ (σ.set i v) [i] := ⟨by simp, fun j h => by
  rw [List.getElem?_set_ne]
  intro z
  exact h (by simp [z])⟩
theorem SameS.trans {σ σ1 σ2 : L2.St} {l l' : List Nat} (a : SameS σ σ1 l) (b : SameS σ1 σ2 l') : SameS σ σ2 (l ++ l') := ⟨b.len.trans a.len, fun i h => by
  rw [List.mem_append, not_or] at h
  rw [b.at_ i h.2, a.at_ i h.1]⟩

/-! ### readings -/
section
variable (RX : RXT) (K : PySem.W.Frag)
def tE (W : WX) (f : Env → Store → Res R) : TE := fun σ H Q => ∃ ρ μ S, SR K H μ S ∧ RE RX.lp K H μ ρ σ ∧ Out RX K (fun c d H' => W c d σ H') H μ (f ρ S) fun r S' H' μ' => ∀ v, RR K H H' μ' r v → Q v H'
def tT (W : WX) (f : Env → Store → Res Bool) : TT := fun σ H Q => ∃ ρ μ S, SR K H μ S ∧ RE RX.lp K H μ ρ σ ∧ Out RX K (fun c d H' => W c d σ H') H μ (f ρ S) fun b S' H' μ' => Q b H'
def tA (W : WX) (f : Env → Store → Res (List D)) : TA := fun σ H Q => ∃ ρ μ S, SR K H μ S ∧ RE RX.lp K H μ ρ σ ∧ Out RX K (fun c d H' => W c d σ H') H μ (f ρ S) fun ds S' H' μ' => ∀ vs, RDs K H' μ' ds vs → Q vs H'
/-- a target, given a value -/
def tG (l : List Nat) (f : D → Env → Store → Res Env) : TG := fun v σ H Q => ∃ d ρ μ S, RD K H μ d v ∧ SR K H μ S ∧ RE RX.lp K H μ ρ σ ∧ Out RX K (fun _ _ _ => False) H μ (f d ρ S) fun ρ' S' H' μ' => ∀ σ', RE RX.lp K H' μ' ρ' σ' → SameS σ σ' l → Q σ' H'
def tGs (l : List Nat) (f : List D → Env → Store → Res Env) : TGs := fun v σ H Q => ∃ d ρ μ S, RDs K H μ d v ∧ SR K H μ S ∧ RE RX.lp K H μ ρ σ ∧ Out RX K (fun _ _ _ => False) H μ (f d ρ S) fun ρ' S' H' μ' => ∀ σ', RE RX.lp K H' μ' ρ' σ' → SameS σ σ' l → Q σ' H'
end
/-- a value's truth -/
def tru (f : Res R) : Res Bool := f.bind fun x S => Q.opt (truth S x) fun k => .ok k S
theorem _root_.L2.PE.imp {X : Cx} {e : Expr} {t t' : TE} (h : PE X e t) (f : ∀ σ H Q, t' σ H Q → t σ H Q) : PE X e t' := ⟨fun pins s σ H Q I z => h.run pins s σ H Q I (f σ H Q z)⟩
theorem _root_.L2.PT.imp {X : Cx} {e : Expr} {t t' : TT} (h : PT X e t) (f : ∀ σ H Q, t' σ H Q → t σ H Q) : PT X e t' := ⟨fun pins s σ H Q I z => h.run pins s σ H Q I (f σ H Q z)⟩
theorem _root_.L2.PA.imp {X : Cx} {e : List Expr} {t t' : TA} (h : PA X e t) (f : ∀ σ H Q, t' σ H Q → t σ H Q) : PA X e t' := ⟨fun pos pins s σ H Q I z => h.run pos pins s σ H Q I (f σ H Q z)⟩
theorem _root_.L2.PG.imp {X : Cx} {e : Expr} {t t' : TG} (h : PG X e t) (f : ∀ v σ H Q, t' v σ H Q → t v σ H Q) : PG X e t' := ⟨fun pins s σ H v u Q I r z => h.run pins s σ H v u Q I r (f v σ H Q z)⟩
theorem _root_.L2.PS.imp {X : Cx} {e : Stmt} {t t' : TS} (h : PS X e t) (f : ∀ D σ H, t' D σ H → t D σ H) : PS X e t' := ⟨fun pins s σ H D I z => h.run pins s σ H D I (f D σ H z)⟩
theorem _root_.L2.PSs.imp {X : Cx} {e : List Stmt} {t t' : TS} (h : PSs X e t) (f : ∀ D σ H, t' D σ H → t D σ H) : PSs X e t' := ⟨fun pins s σ H D I z => h.run pins s σ H D I (f D σ H z)⟩
end Q
end
section
-- Snd3
set_option Elab.async false
set_option linter.all false
set_option maxRecDepth 100000
set_option maxHeartbeats 4000000
namespace Q
open PySem PySem.Spec PyProof.Rows L2

/-! ### tuple * int, the other ways -/
theorem tuple_mulSame (l : Addr) (items : Array Value) (n : Nat) (dd : Option Addr) (sl : Array (Option Value)) (x : Int) (u : Tok) (inLine : (decide (x < -(2 ^ 63)) || decide (x ≥ 2 ^ 63)) = false) (isSame : (items.isEmpty || x == 1) = true) :
    Meets (Builtin.«tuple.__mul__» ⟨[.ref l, .int x u], []⟩) (fun _ R s => s.heap.get? l = some { cls := .type "tuple", dict := dd, data := .seq items n, slots := sl } ∧
      R (.ok (.ret (Value.ref l))) s) :=
  .of_wp fun prog w A R s h => by
    obtain ⟨heap0, g, d, tok, os0⟩ := s
    obtain ⟨tupAt, h⟩ := h
    have ixi := AutoSeq1.idx_int
    wp_walk using wpAny_loadPart' tupAt
    repeat (first
      | (refine wpAny_ite_false (decide_eq_false (by rw [inLine]; exact Bool.false_ne_true)) ?_; wp_walk using wpAny_loadPart' tupAt)
      | (refine wpAny_ite_true (decide_eq_true (by rw [isSame])) ?_; wp_walk using wpAny_loadPart' tupAt))
    exact ⟨_, rfl, h⟩
theorem tuple_mulNone (l : Addr) (items : Array Value) (n : Nat) (dd : Option Addr) (sl : Array (Option Value)) (x : Int) (u : Tok) (inLine : (decide (x < -(2 ^ 63)) || decide (x ≥ 2 ^ 63)) = false) (isSame : (items.isEmpty || x == 1) = false) (isNone : (decide (x ≤ 0) || items.isEmpty) = true) :
    Meets (Builtin.«tuple.__mul__» ⟨[.ref l, .int x u], []⟩) (fun _ R s => s.heap.get? l = some { cls := .type "tuple", dict := dd, data := .seq items n, slots := sl } ∧
      R (.ok (.ret (Value.ref s.heap.objs.size))) { s with heap := s.heap.push { cls := Value.type "tuple", data := Data.seq #[] }, toks := s.toks }) :=
  .of_wp fun prog w A R s h => by
    obtain ⟨heap0, g, d, tok, os0⟩ := s
    obtain ⟨tupAt, h⟩ := h
    have ixi := AutoSeq1.idx_int
    wp_walk using wpAny_loadPart' tupAt
    repeat (first
      | (refine wpAny_ite_false (decide_eq_false (by rw [inLine]; exact Bool.false_ne_true)) ?_; wp_walk using wpAny_loadPart' tupAt)
      | (refine wpAny_ite_false (decide_eq_false (by rw [isSame]; exact Bool.false_ne_true)) ?_; wp_walk using wpAny_loadPart' tupAt)
      | (refine wpAny_ite_true (decide_eq_true (by rw [isNone])) ?_; wp_walk using wpAny_loadPart' tupAt))
    exact ⟨_, rfl, h⟩

theorem op_repA0 {X : Cx} {pins : List (Addr × Obj)} {s : Shared} {σ : L2.St} {H : Hp} {l : Addr} {k : Int} {xs : List L2.V} {v u : Value} {Q : VK} (I : Inv X pins σ H s) (rx : RelV (.ref l) v) (ry : RelV (.int k) u) (hT : SqT X.K H l xs) (h0 : 0 ≤ k) (h1 : k ≤ 1000)
    (hc : (xs.isEmpty || k == 1) = true) (q : Q (.ref l) H) : wpAny (model X.prog X.w) X.A (binaryOp .Mult v u) (EP X pins σ Q) X.xe s := by
  cases rx
  obtain ⟨t, rfl⟩ := ry
  obtain ⟨its, r, ⟨⟨cls, dd, data, sl⟩, ho, hc', n, hd⟩, hs⟩ := I.tuple hT
  simp only at hc' hd
  subst hc' hd
  have same1 : (its.toArray.isEmpty || k == 1) = true := by
    cases r <;> simpa using hc
  have inLine : (decide (k < -(2 ^ 63)) || decide (k ≥ 2 ^ 63)) = false := by
    rw [decide_eq_false (by omega), decide_eq_false (by omega)] <;> rfl
  exact wpAny_binaryOp_repeat_ref (T := "tuple") (U := "int") (by decide) ⟨_, ho, rfl⟩ (fun s' => typeIs_int s' k t) noFill_tuple_mul F.fills_int_mul F.slot_int_rmul repeat_tuple F.slot_int_index.lookup
    (call_meets F.slot_int_rmul (typeIs_int s k t) F.entry_int_rmul (F.args_int_rmul_2 _ _) (int_rmul_tuple k t l its.toArray n dd sl)
      ⟨ho, rfl, ⟨_, ho, rfl⟩, call_meets F.slot_tuple_mul ⟨_, ho, rfl⟩ F.entry_tuple_mul (F.args_tuple_mul_2 _ _) (tuple_mulSame l its.toArray n dd sl k t inLine same1) ⟨ho, .ref l, H, I, rfl, q⟩⟩)
theorem op_repA1 {X : Cx} {pins : List (Addr × Obj)} {s : Shared} {σ : L2.St} {H : Hp} {l : Addr} {xs : List L2.V} {v u : Value} {Q : VK} (I : Inv X pins σ H s) (rx : RelV (.ref l) v) (ry : RelV (.int 0) u) (hT : SqT X.K H l xs)
    (hne : xs.isEmpty = false) (q : ∀ p, H p = none → Q (.ref p) (upd H p (.tup []))) : wpAny (model X.prog X.w) X.A (binaryOp .Mult v u) (EP X pins σ Q) X.xe s := by
  cases rx
  obtain ⟨t, rfl⟩ := ry
  obtain ⟨its, r, ⟨⟨cls, dd, data, sl⟩, ho, hc', n, hd⟩, hs⟩ := I.tuple hT
  simp only at hc' hd
  subst hc' hd
  have same1 : (its.toArray.isEmpty || (0 : Int) == 1) = false := by
    cases r <;> simp_all
  refine wpAny_binaryOp_repeat_ref (T := "tuple") (U := "int") (by decide) ⟨_, ho, rfl⟩ (fun s' => typeIs_int s' 0 t) noFill_tuple_mul F.fills_int_mul F.slot_int_rmul repeat_tuple F.slot_int_index.lookup
    (call_meets F.slot_int_rmul (typeIs_int s 0 t) F.entry_int_rmul (F.args_int_rmul_2 _ _) (int_rmul_tuple 0 t l its.toArray n dd sl)
      ⟨ho, rfl, ⟨_, ho, rfl⟩, call_meets F.slot_tuple_mul ⟨_, ho, rfl⟩ F.entry_tuple_mul (F.args_tuple_mul_2 _ _) (tuple_mulNone l its.toArray n dd sl 0 t (by decide) same1 (by rfl)) ⟨ho, ?_⟩⟩)
  have hn : H s.heap.objs.size = none := I.hok.fresh (Nat.le_refl _)
  refine ⟨.ref s.heap.objs.size, _, I.laid (o := .tup []) (t' := s.toks) (fun b o e => Heap.get?_push_of_some _ e) (Nat.le_refl _) ⟨Nat.zero_le _, [], .nil, ?_⟩, rfl, q _ hn⟩
  exact ⟨_, Heap.get?_push_size s.heap rfl, rfl, _, rfl⟩

/-! ### what is new -/
section
variable {K : PySem.W.Frag} {H H0 : Hp} {μ μ0 : List Addr} {S : Store}
theorem not_in (t : SR K H μ S) {p : Addr} (heap0 : H p = none) : p ∉ μ := fun m => by
  obtain ⟨o, h, _⟩ := t.there m
  rw [heap0] at h; cases h
theorem Step.new (st : Step H0 μ0 H μ) {p : Addr} {o : HO} (heap0 : H p = none) : Step H0 μ0 (upd H p o) μ := st.trans (StepD.grow (D := none) (grow_upd heap0))
theorem SR.new (t : SR K H μ S) {p : Addr} {o : HO} (heap0 : H p = none) : SR K (upd H p o) μ S := t.grow (grow_upd heap0)
theorem RD.new {d : D} {v : L2.V} (r : RD K H μ d v) {p : Addr} {o : HO} (heap0 : H p = none) : RD K (upd H p o) μ d v := r.step (StepD.grow (D := none) (grow_upd heap0))
theorem RDs.new {d : List D} {v : List L2.V} (r : RDs K H μ d v) {p : Addr} {o : HO} (heap0 : H p = none) : RDs K (upd H p o) μ d v := r.step (StepD.grow (D := none) (grow_upd heap0))
theorem new_tup {ds : List D} {vs : List L2.V} (r : RDs K H μ ds vs) {p : Addr} (heap0 : H p = none) : RD K (upd H p (.tup vs)) μ (.tup ds) (.ref p) := .tup (SqT.of upd_same) (r.new heap0)
theorem new_lst (st : Step H0 μ0 H μ) (t : SR K H μ S) {ds : List D} {vs : List L2.V} (r : RDs K H μ ds vs) {p : Addr} (heap0 : H p = none) : RR K H0 (upd H p (.lst vs)) μ (.t ds) (.ref p) :=
  ⟨p, vs, rfl, st.live p heap0, upd_same, not_in t heap0, r.new heap0⟩
theorem seq_tup {a : R} {v : L2.V} {ds : List D} (t : SR K H μ S) (r : RR K H0 H μ a v) (e : seqOf S a = some (true, ds)) : a = .v (.tup ds) ∧ ∃ p vs, v = .ref p ∧ SqT K H p vs ∧ RDs K H μ ds vs := by
  unfold seqOf at e
  split at e
  · cases e
  · split at e
    · cases e
      cases (show RD K H μ _ v from r) with
      | tup h q => exact ⟨rfl, _, _, rfl, h, q⟩
    · split at e <;> cases e
    · cases e
    · cases e
theorem imm_rd {a : Addr} {xs : List L2.V} (h : Imm H a (.lst xs)) : Rd H a (.lst xs) := h.elim .inr fun h => .inl h.2
theorem seq_lst {a : R} {v : L2.V} {ds : List D} (t : SR K H μ S) (r : RR K H0 H μ a v) (e : seqOf S a = some (false, ds)) : ∃ p vs, v = .ref p ∧ Rd H p (.lst vs) ∧ RDs K H μ ds vs ∧ ((∀ z, a ≠ .v (.fz z)) → H p = some (.lst vs)) := by
  unfold seqOf at e
  split at e
  · cases e
    obtain ⟨p, vs, e1, _, h, _, q⟩ := r
    exact ⟨p, vs, e1, .inl h, q, fun _ => h⟩
  · split at e
    · cases e
    · rename_i n
      split at e
      · rename_i ds' hs
        cases e
        cases (show RD K H μ _ v from r) with
        | ref hm =>
          obtain ⟨o, h1, vs, h2, h3⟩ := t.cell n _ _ hs hm
          subst h2
          exact ⟨_, vs, rfl, .inl h1, h3, fun _ => h1⟩
      · cases e
    · cases e
      cases (show RD K H μ _ v from r) with
      | fz h q => exact ⟨_, _, rfl, imm_rd h, q, fun z => absurd rfl (z _)⟩
    · cases e
end

/-! ### operators -/
section
variable {X : Cx} {RX : RXT}
/-- the answer of an operation on values -/
def rV (RX : RXT) (K : PySem.W.Frag) (f : Store → R → R → Res R) : R2 := fun x y H Q => ∃ E H0 μ0 μ S a b, Step H0 μ0 H μ ∧ SR K H μ S ∧ RR K H0 H μ a x ∧ RR K H0 H μ b y ∧ Out RX K E H0 μ0 (f S a b) fun r S' H' μ' => ∀ v, RR K H0 H' μ' r v → Q v H'
theorem rd_int {K : PySem.W.Frag} {H : Hp} {μ : List Addr} {i : Int} {v : L2.V} (r : RD K H μ (.int i) v) : v = .int i := by cases r; rfl
theorem rd_bl {K : PySem.W.Frag} {H : Hp} {μ : List Addr} {i : Bool} {v : L2.V} (r : RD K H μ (.bl i) v) : v = .bl i := by cases r; rfl
theorem rd_str {K : PySem.W.Frag} {H : Hp} {μ : List Addr} {i : Str} {v : L2.V} (r : RD K H μ (.str i) v) : v = .str i := by cases r; rfl
theorem rd_non {K : PySem.W.Frag} {H : Hp} {μ : List Addr} {v : L2.V} (r : RD K H μ .non v) : v = .non := by cases r; rfl
theorem op_fdivX : OpR X (binaryOp .FloorDiv) (rI (fun _ j => divOk j = true) fun i j => .int (i.fdiv j)) := opI fun i j _ _ _ _ _ hc q => by
  unfold divOk at hc
  rw [Bool.and_eq_true] at hc
  exact floordiv_int (by simpa using hc.2) q (.inl (PyProof.noPylong_of_log2 (Nat.blt_eq.mp hc.1)))
theorem op_powX : OpR X (binaryOp .Pow) (rI (fun i j => 0 ≤ j ∧ j ≤ 1000 ∧ i.natAbs.log2 < 1000) fun i j => .int (i ^ j.toNat)) := opI fun i j _ _ _ _ _ hc q => by
  obtain ⟨h1, h2, h3⟩ := hc
  refine pow_int h1 ?_ q
  have b : Builtin.Int.intBits i ≤ i.natAbs.log2 + 1 := by
    unfold Builtin.Int.intBits
    split <;> omega
  have b2 : (Builtin.Int.intBits i : Int) ≤ 1000 := by omega
  have b3 : (Builtin.Int.intBits i : Int) * j ≤ 1000 * 1000 := Int.mul_le_mul b2 h2 h1 (by decide)
  have : (1000 * 1000 : Int) ≤ 2 ^ 27 := by decide
  omega
/-- list + list, read only -/
theorem op_catR : OpR X (binaryOp .Add) fun x y H Q => ∃ l b xs zs, x = .ref l ∧ y = .ref b ∧ Rd H l (.lst xs) ∧ Rd H b (.lst zs) ∧ xs.length + zs.length ≤ sizeLine ∧ ∀ p, H p = none → Q (.ref p) (upd H p (.lst (xs ++ zs))) := by
  intro pins s σ H x y v u Q I rx ry ⟨l, b, xs, zs, e1, e2, h1, h2, hz, q⟩
  subst e1 e2
  cases rx
  cases ry
  obtain ⟨z1, its1, n1, r1, g1⟩ := h1.ok I.hok
  obtain ⟨z2, its2, n2, r2, g2⟩ := h2.ok I.hok
  have l1 := r1.length
  have l2 := r2.length
  refine PySem.P.add_list g1 g2 ?_ (by simp; omega)
  have both : its1.toArray ++ its2.toArray = (its1 ++ its2).toArray := by simp
  rw [both]
  exact ⟨.ref _, _, I.lnew (t' := s.toks) (r1.append r2) (by simp; omega), rfl, q _ I.fresh⟩
theorem op_bin (o : Operator) : OpR X (binaryOp o) (rV RX X.K (evBin o)) := by
  intro pins s σ H x y v u Q I rx ry ⟨E, H0, μ0, μ, S, a, b, st, t, ha, hb, h⟩
  cases o with
  | Add =>
    by_cases same1 : ∃ i j, a = .v (.int i) ∧ b = .v (.int j)
    · obtain ⟨i, j, rfl, rfl⟩ := same1
      exact op_add pins s σ H x y v u Q I rx ry ⟨i, j, rd_int ha, rd_int hb, h H μ st t _ (.int _)⟩
    by_cases hs : ∃ i j, a = .v (.str i) ∧ b = .v (.str j)
    · obtain ⟨i, j, rfl, rfl⟩ := hs
      have h : Out RX X.K E H0 μ0 (if Nat.ble (i.length + j.length) szl then _ else _) _ := h
      split at h
      · rename_i hz
        exact op_add_str pins s σ H x y v u Q I rx ry ⟨i, j, rd_str ha, rd_str hb, by rw [sizeLine_eq]; exact Nat.ble_eq.mp hz, h H μ st t _ (.str _)⟩
      · exact h.elim
    by_cases ht : ∃ i j, a = .v (.tup i) ∧ b = .v (.tup j)
    · obtain ⟨i, j, rfl, rfl⟩ := ht
      have h : Out RX X.K E H0 μ0 (if Nat.ble (i.length + j.length) szl then _ else _) _ := h
      split at h
      · rename_i hz
        cases (show RD X.K H μ _ x from ha) with
        | tup h1 q1 =>
          cases (show RD X.K H μ _ y from hb) with
          | tup h2 q2 =>
            refine op_catA pins s σ H _ _ v u Q I rx ry ⟨_, _, _, _, rfl, rfl, h1, h2, ?_, ?_, ?_, ?_⟩
            · rw [← q1.length, ← q2.length, sizeLine_eq]; exact Nat.ble_eq.mp hz
            · intro e
              subst e
              cases q1
              exact h H μ st t _ (.tup h2 q2)
            · intro _ e
              subst e
              cases q2
              refine h H μ st t _ (.tup h1 ?_)
              rw [List.append_nil]; exact q1
            · intro _ _ p heap0
              exact h _ μ (st.new heap0) (t.new heap0) _ (new_tup (q1.append q2) heap0)
      · exact h.elim
    · have e : evBin .Add S a b = match seqOf S a, seqOf S b with
          | some (false, x), some (false, y) => if Nat.ble (x.length + y.length) szl then .ok (.t (x ++ y)) S else .bad
          | _, _ => .bad := by
        unfold evBin
        dsimp only
        split
        · exact absurd ⟨_, _, rfl, rfl⟩ same1
        · exact absurd ⟨_, _, rfl, rfl⟩ hs
        · exact absurd ⟨_, _, rfl, rfl⟩ ht
        · rfl
      rw [e] at h
      split at h
      · rename_i e1 e2
        obtain ⟨p, vs, rfl, h1, q1, _⟩ := seq_lst t ha e1
        obtain ⟨p', vs', rfl, h2, q2, _⟩ := seq_lst t hb e2
        split at h
        · rename_i hz
          refine op_catR pins s σ H _ _ v u Q I rx ry ⟨_, _, _, _, rfl, rfl, h1, h2, ?_, fun r hr => ?_⟩
          · rw [← q1.length, ← q2.length, sizeLine_eq]; exact Nat.ble_eq.mp hz
          · exact h _ μ (st.new hr) (t.new hr) _ (new_lst st t (q1.append q2) hr)
        · exact h.elim
      · exact h.elim
  | Sub =>
    unfold evBin at h
    dsimp only at h
    split at h
    · rename_i i j
      exact op_sub pins s σ H x y v u Q I rx ry ⟨i, j, rd_int ha, rd_int hb, h H μ st t _ (.int _)⟩
    · exact h.elim
  | Mult =>
    unfold evBin at h
    dsimp only at h
    split at h
    · rename_i i j
      split at h
      · rename_i hz
        exact op_mulW pins s σ H x y v u Q I rx ry ⟨i, j, rd_int ha, rd_int hb, Nat.blt_eq.mp hz, h H μ st t _ (.int _)⟩
      · exact h.elim
    · rename_i ds k
      split at h
      · rename_i hz
        rw [Bool.and_eq_true, Bool.and_eq_true] at hz
        obtain ⟨⟨z1, z2⟩, z3⟩ := hz
        have z1 := Nat.ble_eq.mp z1
        have z2 := of_decide_eq_true z2
        have z3 := of_decide_eq_true z3
        have ey := rd_int hb
        subst ey
        cases (show RD X.K H μ _ x from ha) with
        | @tup p vs _ h1 q1 =>
          have tupAt := q1.length
          by_cases hc : (vs.isEmpty || k == 1) = true
          · refine op_repA0 I rx ry h1 z3 z2 hc (h H μ st t _ (.tup h1 ?_))
            rcases (Bool.or_eq_true _ _).mp hc with z | z
            · have ev : vs = [] := List.isEmpty_iff.mp z
              subst ev
              cases q1
              have : (List.replicate k.toNat ([] : List D)).flatten = [] := by simp
              rw [this]; exact .nil
            · have ek : k = 1 := by simpa using z
              subst ek
              have : (List.replicate (1 : Int).toNat ds).flatten = ds := by simp
              rw [this]; exact q1
          · have hv : vs.isEmpty = false := by
              cases e : vs.isEmpty <;> simp_all
            have hk : k ≠ 1 := by
              intro e
              subst e
              simp at hc
            by_cases hk0 : k = 0
            · subst hk0
              exact op_repA1 I rx ry h1 hv fun p heap0 => h _ μ (st.new heap0) (t.new heap0) _ (new_tup .nil heap0)
            · refine op_repT pins s σ H _ _ v u Q I rx ry ⟨_, _, _, rfl, rfl, h1, ?_, by omega, z2, by omega, fun p heap0 => ?_⟩
              · intro e; subst e; simp at hv
              · exact h _ μ (st.new heap0) (t.new heap0) _ (new_tup (q1.rep _) heap0)
      · exact h.elim
    · exact h.elim
    · rename_i k _ _ hnz
      split at h
      · rename_i e1
        split at h
        · rename_i hz
          rw [Bool.and_eq_true, Bool.and_eq_true] at hz
          obtain ⟨⟨z1, z2⟩, z3⟩ := hz
          have z1 := Nat.ble_eq.mp z1
          have z2 := of_decide_eq_true z2
          have z3 := of_decide_eq_true z3
          obtain ⟨p, vs, rfl, _, q1, h1⟩ := seq_lst t ha e1
          have h1 := h1 fun z e => hnz z e
          have ey := rd_int hb
          subst ey
          refine op_rep pins s σ H _ _ v u Q I rx ry ⟨_, _, _, rfl, rfl, h1, by omega, by omega, ?_, fun p heap0 => ?_⟩
          · have tupAt := q1.length
            have a1 : vs.length * k.toNat ≤ 1000 * 1000 := Nat.mul_le_mul (by omega) (by omega)
            rw [sizeLine_eq]; omega
          · exact h _ μ (st.new heap0) (t.new heap0) _ (new_lst st t (q1.rep _) heap0)
        · exact h.elim
      · exact h.elim
    · exact h.elim
  | FloorDiv =>
    unfold evBin at h
    dsimp only at h
    split at h
    · rename_i i j
      split at h
      · rename_i hz
        exact op_fdivX pins s σ H x y v u Q I rx ry ⟨i, j, rd_int ha, rd_int hb, hz, h H μ st t _ (.int _)⟩
      · exact h.elim
    · exact h.elim
  | Mod =>
    unfold evBin at h
    dsimp only at h
    split at h
    · rename_i i j
      split at h
      · exact h.elim
      · rename_i hz
        exact op_modN pins s σ H x y v u Q I rx ry ⟨i, j, rd_int ha, rd_int hb, by simpa using hz, h H μ st t _ (.int _)⟩
    · exact h.elim
  | Pow =>
    unfold evBin at h
    dsimp only at h
    split at h
    · rename_i i j
      split at h
      · rename_i hz
        rw [Bool.and_eq_true, Bool.and_eq_true] at hz
        exact op_powX pins s σ H x y v u Q I rx ry ⟨i, j, rd_int ha, rd_int hb, ⟨of_decide_eq_true hz.1.1, of_decide_eq_true hz.1.2, Nat.blt_eq.mp hz.2⟩, h H μ st t _ (.int _)⟩
      · exact h.elim
    · exact h.elim
  | _ => exact h.elim
end
end Q
end
section
-- SndP
set_option Elab.async false
set_option linter.all false
set_option maxRecDepth 100000
set_option maxHeartbeats 4000000
namespace Q
open PySem PySem.Spec PyProof.Rows L2
/-! ### rows in the heap -/
abbrev kPr (p : Int × Int) : NestedKey := .tup [.num p.1, .num p.2]
abbrev kRow (r : Row) : NestedKey := .tup (r.map kPr)
theorem kPr_depth (p : Int × Int) : (kPr p).depth ≤ 8 := by
  simp [NestedKey.depth, NestedKey.depthAll]
theorem kRow_depth (r : Row) : (kRow r).depth ≤ 8 := by
  have h : ∀ l : Row, NestedKey.depthAll (l.map kPr) ≤ 1 := fun l => by
    induction l with
    | nil => simp [NestedKey.depthAll]
    | cons p l ih =>
      simp only [List.map_cons, NestedKey.depthAll, NestedKey.depth] at ih ⊢
      omega
  have := h r
  simp only [NestedKey.depth]
  omega
def PrIs (h : Heap) (p : Int × Int) (u : Value) : Prop := ∃ a t t', u = .ref a ∧ h.IsTuple a #[.int p.1 t, .int p.2 t']
def RowIs (h : Heap) (r : Row) (u : Value) : Prop := ∃ a, ∃ its : List Value, u = .ref a ∧ h.IsTuple a its.toArray ∧ PySem.Paired (PrIs h) r its
theorem PrIs.key {h : Heap} {p : Int × Int} {u : Value} (x : PrIs h p u) : NestedIs h (kPr p) u := by
  obtain ⟨a, t, t', rfl, o, ho, hc, n, hd⟩ := x
  exact .tup ho hc hd (.cons (.int _ _) (.cons (.int _ _) .nil))
theorem rows_key {h : Heap} {r : Row} {its : List Value} (x : PySem.Paired (PrIs h) r its) : NestedAll h (r.map kPr) its := by
  induction x with
  | nil => exact .nil
  | cons a _ ih => exact .cons a.key ih
theorem RowIs.key {h : Heap} {r : Row} {u : Value} (x : RowIs h r u) : NestedIs h (kRow r) u := by
  obtain ⟨a, its, rfl, ⟨o, ho, hc, n, hd⟩, q⟩ := x
  exact .tup ho hc hd (rows_key q)
theorem kPr_inj {p q : Int × Int} (e : kPr p = kPr q) : p = q := by
  obtain ⟨a, b⟩ := p
  obtain ⟨c, d⟩ := q
  injection e with e
  injection e with e1 e2
  injection e1 with e1
  injection e2 with e2 _
  injection e2 with e2
  dsimp only at e1 e2
  rw [e1, e2]
theorem kRow_inj {r t : Row} (e : kRow r = kRow t) : r = t := by
  injection e with e
  exact (List.map_inj_right fun _ _ => kPr_inj).mp e
theorem PrIs.keeps {h h' : Heap} {p : Int × Int} {u : Value} (x : PrIs h p u) (k : ∀ b o, h.get? b = some o → o.cls = .type "tuple" → h'.get? b = some o) : PrIs h' p u := by
  obtain ⟨a, t, t', e, o, ho, hc, w⟩ := x
  exact ⟨a, t, t', e, o, k _ _ ho hc, hc, w⟩
theorem prs_keeps {h h' : Heap} {r : Row} {its : List Value} (k : ∀ b o, h.get? b = some o → o.cls = .type "tuple" → h'.get? b = some o) (q : PySem.Paired (PrIs h) r its) : PySem.Paired (PrIs h') r its := by
  induction q with
  | nil => exact .nil
  | cons x _ ih => exact .cons (x.keeps k) ih
theorem RowIs.keeps {h h' : Heap} {r : Row} {u : Value} (x : RowIs h r u) (k : ∀ b o, h.get? b = some o → o.cls = .type "tuple" → h'.get? b = some o) : RowIs h' r u := by
  obtain ⟨a, its, e, ⟨o, ho, hc, w⟩, q⟩ := x
  exact ⟨a, its, e, ⟨o, k _ _ ho hc, hc, w⟩, prs_keeps k q⟩
/-! less -/
theorem prs_lt {A : Around} {s : Shared} {p q : Int × Int} {u v : Value} (hu : A.units < cLine) (x : PrIs s.heap p u) (y : PrIs s.heap q v) : Ob.RcOp .Lt A s u v (ltP p q) := by
  obtain ⟨a, t, t', rfl, h1⟩ := x
  obtain ⟨b, w, w', rfl, h2⟩ := y
  have z := Ob.RcOp.tuples_lt (A := A) (s := s) (e := fun j => if j = 0 then p.1 == q.1 else p.2 == q.2) (r := fun j => if j = 0 then decide (p.1 < q.1) else decide (p.2 < q.2)) h1 h2 hu
    (fun j j1 j2 => by
      match j, j1 with
      | 0, _ => exact SeqAt.EqAt.int_int _ _ _ _
      | 1, _ => exact SeqAt.EqAt.int_int _ _ _ _
      | j + 2, j1 => exact absurd j1 (by simp))
    (fun j j1 j2 _ => by
      match j, j1 with
      | 0, _ => exact Ob.RcOp.lt_int _ _ _ _
      | 1, _ => exact Ob.RcOp.lt_int _ _ _ _
      | j + 2, j1 => exact absurd j1 (by simp))
  have e : Ob.lexAt (fun j => if j = 0 then p.1 == q.1 else p.2 == q.2) (fun j => if j = 0 then decide (p.1 < q.1) else decide (p.2 < q.2)) (decide (2 < 2)) 0 2 = ltP p q := by
    rw [Ob.lexAt_succ, Ob.lexAt_succ, Ob.lexAt_zero]
    unfold ltP
    by_cases e1 : p.1 = q.1
    · rw [if_pos e1, if_pos rfl, if_pos (beq_iff_eq.mpr e1)]
      by_cases e2 : p.2 = q.2
      · simp [e2]
      · simp [e2]
    · rw [if_neg e1]
      simp [e1]
  rw [← e]
  exact z
theorem lex_row (r t : Row) (z : Bool) (hz : z = decide (r.length < t.length)) : ∀ k i : Nat, i + k = min r.length t.length →
    Ob.lexAt (fun j => decide (r[j]? = t[j]?)) (fun j => match r[j]?, t[j]? with | some p, some q => ltP p q | _, _ => false) z i k = ltRow (r.drop i) (t.drop i)
  | 0, i, h => by
    rw [Ob.lexAt_zero, hz]
    by_cases l : r.length < t.length
    · rw [decide_eq_true l, List.drop_eq_nil_of_le (by omega), List.drop_eq_getElem_cons (show i < t.length by omega)]
      rfl
    · rw [decide_eq_false l, List.drop_eq_nil_of_le (as := t) (by omega)]
      cases r.drop i <;> rfl
  | k + 1, i, h => by
    have h1 : i < r.length := by omega
    have h2 : i < t.length := by omega
    rw [Ob.lexAt_succ, List.drop_eq_getElem_cons h1, List.drop_eq_getElem_cons h2, ltRow, lex_row r t z hz k (i + 1) (by omega)]
    rw [List.getElem?_eq_getElem h1, List.getElem?_eq_getElem h2]
    by_cases e : r[i] = t[i]
    · rw [if_pos e, if_pos (by rw [e]; exact decide_eq_true rfl)]
    · rw [if_neg e, if_neg (by simp [e])]
theorem prs_get {h : Heap} {r : Row} {its : List Value} (x : PySem.Paired (PrIs h) r its) : its.length = r.length ∧ ∀ (j : Nat) (h1 : j < its.length) (h2 : j < r.length), PrIs h r[j] its[j] := by
  induction x with
  | nil => exact ⟨rfl, fun j h1 => absurd h1 (by simp)⟩
  | cons a _ ih =>
    refine ⟨by rw [List.length_cons, List.length_cons, ih.1], fun j h1 h2 => ?_⟩
    cases j with
    | zero => exact a
    | succ j => exact ih.2 j _ _
theorem rows_lt {A : Around} {s : Shared} {r t : Row} {u v : Value} (hu : A.units + 9 < cLine) (x : RowIs s.heap r u) (y : RowIs s.heap t v) : Ob.RcOp .Lt A s u v (ltRow r t) := by
  obtain ⟨a, xs, rfl, h1, q1⟩ := x
  obtain ⟨b, ys, rfl, h2, q2⟩ := y
  obtain ⟨l1, g1⟩ := prs_get q1
  obtain ⟨l2, g2⟩ := prs_get q2
  have z := Ob.RcOp.tuples_lt (A := A) (s := s) (e := fun j => decide (r[j]? = t[j]?)) (r := fun j => match r[j]?, t[j]? with | some p, some q => ltP p q | _, _ => false) h1 h2 (by omega)
    (fun j j1 j2 => by
      rw [List.size_toArray] at j1 j2
      have i1 : j < r.length := by omega
      have i2 : j < t.length := by omega
      have k := eqAt_key (kPr r[j]) (kPr t[j]) A.in1 s _ _ (g1 j j1 i1).key (g2 j j2 i2).key (by
        have e1 : A.in1.units = A.units + 1 := rfl
        have e2 : (kPr r[j]).depth ≤ 8 := kPr_depth _
        omega)
      rw [← NestedKey.decide_eq] at k
      have e : decide (kPr r[j] = kPr t[j]) = decide (r[j]? = t[j]?) := by
        rw [List.getElem?_eq_getElem i1, List.getElem?_eq_getElem i2]
        by_cases c : r[j] = t[j]
        · rw [decide_eq_true (by rw [c]), decide_eq_true (by rw [c])]
        · rw [decide_eq_false (fun w => c (kPr_inj w)), decide_eq_false (by simp [c])]
      rw [← e]
      exact k)
    (fun j j1 j2 _ => by
      rw [List.size_toArray] at j1 j2
      have i1 : j < r.length := by omega
      have i2 : j < t.length := by omega
      rw [List.getElem?_eq_getElem i1, List.getElem?_eq_getElem i2]
      exact prs_lt (show A.units + 1 < cLine by omega) (g1 j j1 i1) (g2 j j2 i2))
  rw [List.size_toArray, List.size_toArray, l1, l2, lex_row r t _ rfl _ 0 (by omega)] at z
  exact z
/-! ### rows as values -/
def RPr (K : PySem.W.Frag) (H : Hp) (p : Int × Int) (v : L2.V) : Prop := ∃ a, v = .ref a ∧ SqT K H a [.int p.1, .int p.2]
def RRow (K : PySem.W.Frag) (H : Hp) (r : Row) (v : L2.V) : Prop := ∃ a vs, v = .ref a ∧ SqT K H a vs ∧ PySem.Paired (RPr K H) r vs
theorem prsOf_ok {K : PySem.W.Frag} {H : Hp} {μ : List Addr} : ∀ {ds : List D} {vs : List L2.V} {r : Row}, RDs K H μ ds vs → prsOf ds = some r → PySem.Paired (RPr K H) r vs
  | [], _, _, h, e => by
    cases e
    cases h
    exact .nil
  | d :: ds, _, _, h, e => by
    cases h with
    | cons x y =>
      unfold prsOf at e
      split at e
      · rename_i p r e1 e2
        cases e
        refine .cons ?_ (prsOf_ok y e2)
        unfold prOf at e1
        split at e1
        · cases e1
          cases x with
          | tup k q =>
            cases q with
            | cons q1 q2 =>
              cases q2 with
              | cons q2 q3 =>
                cases q3
                cases q1
                cases q2
                exact ⟨_, rfl, k⟩
        · cases e1
      · cases e
theorem rowOf_ok {K : PySem.W.Frag} {H : Hp} {μ : List Addr} {d : D} {v : L2.V} {r : Row} (h : RD K H μ d v) (e : rowOf d = some r) : RRow K H r v := by
  unfold rowOf at e
  split at e
  · cases h with
    | tup k q => exact ⟨_, _, rfl, k, prsOf_ok q e⟩
  · cases e
section
variable {X : Cx} {pins : List (Addr × Obj)} {σ : L2.St} {H : Hp} {s : Shared}
theorem RPr.is {p : Int × Int} {v : L2.V} {u : Value} (x : RPr X.K H p v) (I : Inv X pins σ H s) (r : RelV v u) : PrIs s.heap p u := by
  obtain ⟨a, rfl, h⟩ := x
  cases r
  obtain ⟨its, r1, p1, _⟩ := I.tuple h
  cases r1 with
  | cons q1 q2 =>
    cases q2 with
    | cons q2 q3 =>
      cases q3
      obtain ⟨t1, e1⟩ := q1
      obtain ⟨t2, e2⟩ := q2
      subst e1 e2
      exact ⟨a, _, _, rfl, p1⟩
theorem rprs_is (I : Inv X pins σ H s) {r : Row} {vs : List L2.V} (x : PySem.Paired (RPr X.K H) r vs) : ∀ {us : List Value}, Vals vs us → PySem.Paired (PrIs s.heap) r us := by
  induction x with
  | nil => intro us h; cases h; exact .nil
  | cons a _ ih =>
    intro us h
    cases h with
    | cons q1 q2 => exact .cons (a.is I q1) (ih q2)
theorem RRow.is {r : Row} {v : L2.V} {u : Value} (x : RRow X.K H r v) (I : Inv X pins σ H s) (rv : RelV v u) : RowIs s.heap r u := by
  obtain ⟨a, vs, rfl, h, q⟩ := x
  cases rv
  obtain ⟨its, r1, p1, _⟩ := I.tuple h
  exact ⟨a, its, rfl, p1, rprs_is I q r1⟩
def rLtRow (K : PySem.W.Frag) : R2 := fun x y H Q => ∃ r t, RRow K H r x ∧ RRow K H t y ∧ Q (.bl (ltRow r t)) H
theorem op_ltRow (hu : X.A.units + 64 < cLine) : OpR X (compareOp .Lt) (rLtRow X.K) := by
  intro pins s σ H x y v u Q I rx ry ⟨r, t, h1, h2, q⟩
  exact rows_lt (A := X.A) (by omega) (h1.is I rx) (h2.is I ry) X.prog X.w X.xe (EP X pins σ Q) ⟨.bl _, H, I, rfl, q⟩
end
theorem RPr.step {K : PySem.W.Frag} {H H' : Hp} {p : Int × Int} {v : L2.V} (m : Im H H') (x : RPr K H p v) : RPr K H' p v := by
  obtain ⟨a, e, h⟩ := x
  exact ⟨a, e, SqT.mono' m h⟩
theorem RRow.step {K : PySem.W.Frag} {H H' : Hp} {r : Row} {v : L2.V} (m : Im H H') (x : RRow K H r v) : RRow K H' r v := by
  obtain ⟨a, vs, e, h, q⟩ := x
  refine ⟨a, vs, e, SqT.mono' m h, ?_⟩
  clear h e
  induction q with
  | nil => exact .nil
  | cons a _ ih => exact .cons (a.step m) ih
end Q
end
section
-- Snd4
set_option Elab.async false
set_option linter.all false
set_option maxRecDepth 100000
set_option maxHeartbeats 4000000
namespace Q
open PySem PySem.Spec PyProof.Rows L2

/-! ### data -/
section
variable {K : PySem.W.Frag} {H H0 : Hp} {μ μ0 : List Addr} {S : Store}
theorem dpAll_of {f : Nat} (ih : ∀ (d : D) (v : L2.V) p, RD K H μ d v → D.py S f d = some p → Dp K H v p) : ∀ (ds : List D) (vs : List L2.V) ps, RDs K H μ ds vs → ds.mapM (D.py S f) = some ps → DpAll K H vs ps
  | [], _, ps, .nil, e => by
    rw [List.mapM_nil] at e
    cases e
    exact .nil
  | d :: ds, _, ps, .cons r rr, e => by
    rw [List.mapM_cons] at e
    cases e1 : D.py S f d with
    | none => rw [e1] at e; cases e
    | some p =>
      rw [e1] at e
      cases e2 : ds.mapM (D.py S f) with
      | none => rw [e2] at e; cases e
      | some ps' =>
        rw [e2] at e
        cases e
        exact .cons (ih d _ p r e1) (dpAll_of ih ds _ ps' rr e2)
theorem dp_of (t : SR K H μ S) : ∀ (f : Nat) (d : D) (v : L2.V) p, RD K H μ d v → D.py S f d = some p → Dp K H v p
  | 0, _, _, _, _, e => by cases e
  | f + 1, _, _, _, .non, e => by cases e; exact .non
  | f + 1, _, _, _, .bl b, e => by cases e; exact .bl b
  | f + 1, _, _, _, .int i, e => by cases e; exact .int i
  | f + 1, _, _, _, .str x, e => by cases e; exact .str x
  | f + 1, _, _, _, .tup (ds := ds) h r, e => by
    have e : (ds.mapM (D.py S f)).map PyData.tuple = some _ := e
    cases e2 : ds.mapM (D.py S f) with
    | none => rw [e2] at e; cases e
    | some ps =>
      rw [e2] at e
      cases e
      exact .tup h (dpAll_of (dp_of t f) _ _ ps r e2)
  | f + 1, _, _, _, .ref (n := n) hm, e => by
    unfold D.py at e
    dsimp only at e
    split at e
    · rename_i ds hs
      obtain ⟨o, h1, vs, h2, h3⟩ := t.cell n _ _ hs hm
      subst h2
      cases e2 : ds.mapM (D.py S f) with
      | none => rw [e2] at e; cases e
      | some ps =>
        rw [e2] at e
        cases e
        exact .lst (SqL.of h1) (dpAll_of (dp_of t f) _ _ ps h3 e2)
    · cases e
  | f + 1, _, _, _, .fl h r, e => by unfold D.py at e; dsimp only at e; cases e
  | f + 1, _, _, _, .fd h, e => by unfold D.py at e; dsimp only at e; cases e
  | f + 1, _, _, _, .fz (ds := ds) h r, e => by
    have e : (ds.mapM (D.py S f)).map PyData.list = some _ := e
    cases e2 : ds.mapM (D.py S f) with
    | none => rw [e2] at e; cases e
    | some ps =>
      rw [e2] at e
      cases e
      exact .lst (.inl (imm_rd h)) (dpAll_of (dp_of t f) _ _ ps r e2)
theorem dpR {a : R} {v : L2.V} {p : PyData} (t : SR K H μ S) (r : RR K H0 H μ a v) (e : a.py S = some p) : Dp K H v p := by
  cases a with
  | v d => exact dp_of t 66 d v p r e
  | t ds =>
    obtain ⟨q, vs, e1, _, h1, _, h3⟩ := r
    subst e1
    have e : (ds.mapM (D.py S 65)).map PyData.list = some _ := e
    cases e2 : ds.mapM (D.py S 65) with
    | none => rw [e2] at e; cases e
    | some ps =>
      rw [e2] at e
      cases e
      exact .lst (SqL.of h1) (dpAll_of (dp_of t 65) _ _ ps h3 e2)
theorem vof_flat {d : D} {v : L2.V} (f : flat d = true) (r : RD K H μ d v) : v = V.of d ∧ flatV v = true := by
  cases r with
  | tup => cases f
  | ref => cases f
  | fl => cases f
  | fz => cases f
  | fd => cases f
  | _ => exact ⟨rfl, rfl⟩
theorem vof_all : ∀ {ds : List D} {vs : List L2.V}, ds.all flat = true → RDs K H μ ds vs → vs = ds.map V.of ∧ vs.all flatV = true
  | _, _, _, .nil => ⟨rfl, rfl⟩
  | _, _, f, .cons r rr => by
    rw [List.all_cons, Bool.and_eq_true] at f
    obtain ⟨e1, e2⟩ := vof_flat f.1 r
    obtain ⟨e3, e4⟩ := vof_all f.2 rr
    subst e1
    subst e3
    exact ⟨rfl, by rw [List.all_cons, e2, e4]; rfl⟩
theorem seq_any {a : R} {v : L2.V} {ds : List D} {b : Bool} (t : SR K H μ S) (r : RR K H0 H μ a v) (e : seqOf S a = some (b, ds)) : ∃ p vs, v = .ref p ∧ (SqL K H p vs ∨ SqT K H p vs) ∧ RDs K H μ ds vs := by
  cases b with
  | true =>
    obtain ⟨_, p, vs, e1, h, q⟩ := seq_tup t r e
    exact ⟨p, vs, e1, .inr h, q⟩
  | false =>
    obtain ⟨p, vs, e1, h, q, _⟩ := seq_lst t r e
    exact ⟨p, vs, e1, .inl (.inl h), q⟩
end

/-! ### comparisons -/
section
variable {X : Cx} {RX : RXT}
def rC (K : PySem.W.Frag) (o : CmpOp) : R2 := fun x y H Q => ∃ H0 μ S a b c, SR K H μ S ∧ RR K H0 H μ a x ∧ RR K H0 H μ b y ∧ evCmp o S a b = some c ∧ Q (.bl c) H
theorem is_non {K : PySem.W.Frag} {H0 H : Hp} {μ : List Addr} {a : R} {x : L2.V} (r : RR K H0 H μ a x) : decide (x = .non) = (match a with | .v .non => true | _ => false) := by
  cases a with
  | v d => cases (show RD K H μ d x from r) <;> rfl
  | t ds =>
    obtain ⟨p, vs, e, _⟩ := r
    subst e
    rfl
theorem intsC_of {K : PySem.W.Frag} {H0 H : Hp} {μ : List Addr} {f : Int → Int → Bool} {a b : R} {x y : L2.V} {c : Bool} (ha : RR K H0 H μ a x) (hb : RR K H0 H μ b y) (e : intsC f a b = some c) : ∃ i j, x = .int i ∧ y = .int j ∧ c = f i j := by
  unfold intsC at e
  split at e
  · cases e; exact ⟨_, _, rd_int ha, rd_int hb, rfl⟩
  · cases e
theorem eqR_of {K : PySem.W.Frag} {H0 H : Hp} {μ : List Addr} {S : Store} {a b : R} {x y : L2.V} {c : Bool} (t : SR K H μ S) (ha : RR K H0 H μ a x) (hb : RR K H0 H μ b y) (e : eqR S a b = some c) :
    ∃ d e, Dp K H x d ∧ Dp K H y e ∧ SeqAt.shaped d = true ∧ SeqAt.shaped e = true ∧ c = PyData.eqv d e := by
  unfold eqR at e
  split at e
  · rename_i p q e1 e2
    split at e
    · rename_i hz
      rw [Bool.and_eq_true] at hz
      cases e
      exact ⟨p, q, dpR t ha e1, dpR t hb e2, hz.1, hz.2, rfl⟩
    · cases e
  · cases e
theorem op_cmp (hu : X.A.units + 64 < cLine) (o : CmpOp) : OpR X (compareOp o) (rC X.K o) := by
  intro pins s σ H x y v u Q I rx ry ⟨H0, μ, S, a, b, c, t, ha, hb, e, q⟩
  cases o with
  | Eq =>
    obtain ⟨d, e', h1, h2, h3, h4, rfl⟩ := eqR_of t ha hb e
    exact op_eqD hu pins s σ H x y v u Q I rx ry ⟨d, e', h1, h2, h3, h4, q⟩
  | NotEq =>
    cases e1 : eqR S a b with
    | none =>
      have e : (eqR S a b).map (!·) = some c := e
      rw [e1] at e; cases e
    | some k =>
      have e : (eqR S a b).map (!·) = some c := e
      rw [e1] at e; cases e
      obtain ⟨d, e', h1, h2, h3, h4, rfl⟩ := eqR_of t ha hb e1
      exact op_neD hu pins s σ H x y v u Q I rx ry ⟨d, e', h1, h2, h3, h4, q⟩
  | Lt =>
    have e : ltR a b = some c := e
    unfold ltR at e
    split at e
    · cases e
      exact op_lt pins s σ H x y v u Q I rx ry ⟨_, _, rd_int ha, rd_int hb, q⟩
    · split at e
      · rename_i e1 e2
        cases e
        exact op_ltRow hu pins s σ H x y v u Q I rx ry ⟨_, _, rowOf_ok ha e1, rowOf_ok hb e2, q⟩
      · cases e
    · cases e
  | LtE => obtain ⟨i, j, e1, e2, rfl⟩ := intsC_of ha hb e; exact op_le pins s σ H x y v u Q I rx ry ⟨i, j, e1, e2, q⟩
  | Gt => obtain ⟨i, j, e1, e2, rfl⟩ := intsC_of ha hb e; exact op_gt pins s σ H x y v u Q I rx ry ⟨i, j, e1, e2, q⟩
  | GtE => obtain ⟨i, j, e1, e2, rfl⟩ := intsC_of ha hb e; exact op_ge pins s σ H x y v u Q I rx ry ⟨i, j, e1, e2, q⟩
  | Is =>
    unfold evCmp at e
    dsimp only at e
    split at e
    · cases e
      exact op_isBl pins s σ H x y v u Q I rx ry ⟨_, _, rd_bl ha, rd_bl hb, by rw [← Bool.beq_eq_decide_eq]; exact q⟩
    · cases e
      exact op_isN pins s σ H x y v u Q I rx ry ⟨rd_non hb, by rw [is_non ha]; exact q⟩
    · rename_i d hd
      cases e
      refine op_isN pins s σ H x y v u Q I rx ry ⟨rd_non hb, ?_⟩
      rw [is_non ha]
      cases d <;> first | exact q | exact (hd rfl).elim
    · cases e
      exact op_isN pins s σ H x y v u Q I rx ry ⟨rd_non hb, by rw [is_non ha]; exact q⟩
    · cases e
  | IsNot =>
    unfold evCmp at e
    dsimp only at e
    split at e
    · cases e
      exact op_notBl pins s σ H x y v u Q I rx ry ⟨_, _, rd_bl ha, rd_bl hb, by rw [← Bool.beq_eq_decide_eq]; exact q⟩
    · cases e
      exact op_notN pins s σ H x y v u Q I rx ry ⟨rd_non hb, by rw [is_non ha]; exact q⟩
    · rename_i d hd
      cases e
      refine op_notN pins s σ H x y v u Q I rx ry ⟨rd_non hb, ?_⟩
      rw [is_non ha]
      cases d <;> first | exact q | exact (hd rfl).elim
    · cases e
      exact op_notN pins s σ H x y v u Q I rx ry ⟨rd_non hb, by rw [is_non ha]; exact q⟩
    · cases e
  | In =>
    unfold evCmp at e
    dsimp only at e
    split at e
    · rename_i d b' ys hs
      split at e
      · rename_i hz
        rw [Bool.and_eq_true] at hz
        cases e
        obtain ⟨p, vs, e1, h1, h2⟩ := seq_any t hb hs
        obtain ⟨e2, f2⟩ := vof_flat hz.1 (show RD X.K H μ d x from ha)
        obtain ⟨e3, f3⟩ := vof_all hz.2 h2
        subst e2 e3
        exact op_in_seq pins s σ H _ y v u Q I rx ry ⟨p, _, e1, h1, f2, f3, q⟩
      · cases e
    · cases e
  | NotIn =>
    unfold evCmp at e
    dsimp only at e
    split at e
    · rename_i d b' ys hs
      split at e
      · rename_i hz
        rw [Bool.and_eq_true] at hz
        cases e
        obtain ⟨p, vs, e1, h1, h2⟩ := seq_any t hb hs
        obtain ⟨e2, f2⟩ := vof_flat hz.1 (show RD X.K H μ d x from ha)
        obtain ⟨e3, f3⟩ := vof_all hz.2 h2
        subst e2 e3
        exact op_notIn_seq pins s σ H _ y v u Q I rx ry ⟨p, _, e1, h1, f2, f3, q⟩
      · cases e
    · cases e

/-! ### truth -/
theorem tru_of {K : PySem.W.Frag} {H0 H : Hp} {μ : List Addr} {S : Store} {a : R} {x : L2.V} {k : Bool} (t : SR K H μ S) (r : RR K H0 H μ a x) (e : truth S a = some k) : TruV K x H k := by
  cases a with
  | t ds =>
    cases e
    obtain ⟨p, vs, e1, _, h1, _, h3⟩ := r
    subst e1
    refine .inl ⟨vs, SqL.of h1, ?_⟩
    cases h3 <;> rfl
  | v d =>
    cases (show RD K H μ d x from r) with
    | non => cases e; rfl
    | bl b => cases e; rfl
    | int i => cases e; rfl
    | str y =>
      have e : (if Nat.ble y.length szl then some ((y.length : Int) != 0) else none) = some k := e
      split at e
      · rename_i hz
        cases e
        exact ⟨by rw [sizeLine_eq]; exact Nat.ble_eq.mp hz, rfl⟩
      · cases e
    | tup h q =>
      cases e
      refine .inr (.inl ⟨_, h, ?_⟩)
      cases q <;> rfl
    | @ref n p hm =>
      unfold truth at e
      dsimp only at e
      split at e
      · rename_i ds hs
        cases e
        obtain ⟨o, h1, vs, h2, h3⟩ := t.cell n _ _ hs hm
        subst h2
        refine .inl ⟨vs, SqL.of h1, ?_⟩
        cases h3 <;> rfl
      · cases e
    | fl h q => unfold truth at e; dsimp only at e; cases e
    | fz h q =>
      cases e
      refine .inl ⟨_, .inl (imm_rd h), ?_⟩
      cases q <;> rfl
    | fd h => unfold truth at e; dsimp only at e; cases e

/-! ### isinstance -/
def Ty.val (t : Ty) : Value := .type (match t with | .int => "int" | .bool => "bool" | .str => "str" | .tuple => "tuple" | .list => "list" | .dict => "dict")
theorem Ty.boot (t : Ty) : bootBuiltins t.nm = some t.val := by cases t <;> decide +kernel
def Ty.v (t : Ty) : L2.V := .ty (match t with | .int => "int" | .bool => "bool" | .str => "str" | .tuple => "tuple" | .list => "list" | .dict => "dict")
theorem Ty.rel (t : Ty) : RelV t.v t.val := by cases t <;> rfl
theorem Ty.cls (t : Ty) : ClsV t.v t.val := by cases t <;> exact .ty _
theorem kit_all (K : PySem.W.Frag) : (∀ t : Ty, PySem.W.kitOne K (.type "NoneType") t.val = some false) ∧ (∀ t : Ty, PySem.W.kitOne K (.type "bool") t.val = some (t == .bool || t == .int)) ∧
    (∀ t : Ty, PySem.W.kitOne K (.type "int") t.val = some (t == .int)) ∧ (∀ t : Ty, PySem.W.kitOne K (.type "str") t.val = some (t == .str)) ∧ (∀ t : Ty, PySem.W.kitOne K (.type "tuple") t.val = some (t == .tuple)) ∧
    (∀ t : Ty, PySem.W.kitOne K (.type "list") t.val = some (t == .list)) ∧ (∀ t : Ty, PySem.W.kitOne K (.type "dict") t.val = some (t == .dict)) := by
  refine ⟨?_, ?_, ?_, ?_, ?_, ?_, ?_⟩ <;> intro t <;> cases t <;> first | exact kit_ty (by decide +kernel) | rfl
theorem tyx_of {K : PySem.W.Frag} {H0 H : Hp} {μ : List Addr} {S : Store} {a : R} {x : L2.V} (t : SR K H μ S) (r : RR K H0 H μ a x) (hx : ∃ t b, tyIs S a t = some b) : ∃ ty, TyX K H x ty ∧ ∀ t b, tyIs S a t = some b → PySem.W.kitOne K ty t.val = some b := by
  obtain ⟨k1, k2, k3, k4, k5, k6, k7⟩ := kit_all K
  cases a with
  | t ds =>
    obtain ⟨p, vs, e1, _, h1, _, h3⟩ := r
    subst e1
    exact ⟨_, .base (.lst h1), fun t b e => by cases e; exact k6 t⟩
  | v d =>
    cases (show RD K H μ d x from r) with
    | non => exact ⟨_, .base .non, fun t b e => by cases e; exact k1 t⟩
    | bl b => exact ⟨_, .base (.bl b), fun t b e => by cases e; exact k2 t⟩
    | int i => exact ⟨_, .base (.int i), fun t b e => by cases e; exact k3 t⟩
    | str y => exact ⟨_, .base (.str y), fun t b e => by cases e; exact k4 t⟩
    | tup h q =>
      rcases h with (h | ⟨o, h⟩) | ⟨o, its, n, h, hc, _⟩
      · exact ⟨_, .base (.tup h), fun t b e => by cases e; exact k5 t⟩
      · exact ⟨_, .fTuple h, fun t b e => by cases e; exact k5 t⟩
      · exact ⟨_, .kTuple h hc, fun t b e => by cases e; exact k5 t⟩
    | fl h q =>
      obtain ⟨t0, b0, e0⟩ := hx
      unfold tyIs at e0
      dsimp only at e0
      cases e0
    | @ref n p hm =>
      obtain ⟨t0, b0, e0⟩ := hx
      cases hs : S[n]? with
      | none => unfold tyIs at e0; simp only [hs] at e0; cases e0
      | some c =>
        obtain ⟨o, h1, h2⟩ := t.cell n _ _ hs hm
        cases c with
        | lst ds =>
          obtain ⟨vs, h2, h3⟩ := h2
          subst h2
          exact ⟨_, .base (.lst h1), fun t b e => by unfold tyIs at e; simp only [hs] at e; cases e; exact k6 t⟩
        | dct kvs =>
          obtain ⟨_, h2⟩ := h2
          subst h2
          exact ⟨_, .base (.dK h1), fun t b e => by unfold tyIs at e; simp only [hs] at e; cases e; exact k7 t⟩
        | tbl q => unfold tyIs at e0; simp only [hs] at e0; cases e0
        | ins nm fs => unfold tyIs at e0; simp only [hs] at e0; cases e0
    | @fz p vs ds h q =>
      rcases h with ⟨o, h⟩ | ⟨⟨xs, z⟩, _⟩
      · exact ⟨_, .base (.frz h), fun t b e => by cases e; exact k6 t⟩
      · cases z
    | @fd p h =>
      rcases h with ⟨o, h⟩ | ⟨⟨xs, z⟩, _⟩
      · exact ⟨_, .fDict h, fun t b e => by cases e; exact k7 t⟩
      · cases z
end
end Q
end
section
-- Snd5
set_option Elab.async false
set_option linter.all false
set_option maxRecDepth 100000
set_option maxHeartbeats 4000000
namespace Q
open PySem PySem.Spec PyProof.Rows L2

/-! ### built-ins of one, of two values -/
def Bi1.val : Bi1 → Value
  | .len => .builtin "len" | .abs => .builtin "abs" | .all => .builtin "all" | .any => .builtin "any" | .repr => .builtin "repr"
  | .int => .type "int" | .bool => .type "bool" | .tuple => .type "tuple" | .list => .type "list"
def Bi2.val : Bi2 → Value
  | .min => .builtin "min" | .max => .builtin "max" | .divmod => .builtin "divmod"
section
variable {X : Cx} {RX : RXT}
def rS1 (RX : RXT) (K : PySem.W.Frag) (f : Store → R → Res R) : List L2.V → Hp → VK → Prop := fun xs H Q => ∃ E H0 μ0 μ S a x, xs = [x] ∧ Step H0 μ0 H μ ∧ SR K H μ S ∧ RR K H0 H μ a x ∧ Out RX K E H0 μ0 (f S a) fun r S' H' μ' => ∀ v, RR K H0 H' μ' r v → Q v H'
def rS2 (RX : RXT) (K : PySem.W.Frag) (f : Store → R → R → Res R) : List L2.V → Hp → VK → Prop := fun xs H Q => ∃ E H0 μ0 μ S a b x y, xs = [x, y] ∧ Step H0 μ0 H μ ∧ SR K H μ S ∧ RR K H0 H μ a x ∧ RR K H0 H μ b y ∧ Out RX K E H0 μ0 (f S a b) fun r S' H' μ' => ∀ v, RR K H0 H' μ' r v → Q v H'
theorem allBl_of {K : PySem.W.Frag} {H : Hp} {μ : List Addr} : ∀ {ds : List D} {vs : List L2.V} {bs : List Bool}, allBl ds = some bs → RDs K H μ ds vs → vs = bs.map L2.V.bl
  | [], _, bs, e, .nil => by cases e; rfl
  | d :: ds, _, bs, e, .cons r rr => by
    cases r with
    | bl b =>
      have e : (allBl ds).map (b :: ·) = some bs := e
      cases e1 : allBl ds with
      | none => rw [e1] at e; cases e
      | some bs' =>
        rw [e1] at e
        cases e
        rw [allBl_of e1 rr]
        rfl
    | _ => cases e
theorem repr_ok {pins : List (Addr × Obj)} {σ : L2.St} {H : Hp} {s : Shared} {v : L2.V} {u : Value} {p : PyData} {y : Str} {Q : Value → Shared → Prop} {E : Value → Shared → Prop} (I : Inv X pins σ H s) (hd : Dp X.K H v p) (r : RelV v u) (e : reprOf p = some y) (gd : X.A.guards = some []) (un : X.A.units + 100 < cLine)
    (h : ∀ (t : Tok) (s' : Shared), Inv X pins σ H s' → Q (.str y t) s') : wpAny (model X.prog X.w) X.A (call (.builtin "repr") [u]) Q E s := by
  unfold reprOf at e
  split at e
  case isFalse => cases e
  rename_i hz
  cases e
  rw [Bool.and_eq_true, Bool.and_eq_true, Bool.and_eq_true] at hz
  obtain ⟨⟨⟨z1, z2⟩, z3⟩, z4⟩ := hz
  have z3 := Nat.ble_eq.mp z3
  have z4 : p.shown.length ≤ sizeLine := by rw [sizeLine_eq]; exact Nat.ble_eq.mp z4
  have z2 : p.hasDict = false := (Bool.not_eq_true' _).mp z2
  obtain ⟨as, rd⟩ := Dp.reads I p v u hd r
  have far : ∀ a, u = .ref a → wpAny (model X.prog X.w) X.A (call (.builtin "repr") [u]) Q E s := fun a ea => by
    subst ea
    exact repr_of_reads' rd z1 (PyData.noDict_hsm z2) gd (by omega) (fun _ _ k => k) (fun h' t tk k => h t _ (I.kept k)) z4
  cases rd with
  | none => exact PySem.P.repr_of_none (h _ _ (I.tok _))
  | bool b => exact PySem.P.repr_of_bool (h _ _ (I.tok _))
  | int i t => exact PySem.P.repr_of_int (of_decide_eq_true z1) (h _ _ (I.tok _))
  | str x t => exact PySem.P.repr_of_str (h _ _ (I.tok _)) z4
  | _ => exact far _ rfl
theorem call_bi1 (hc : X.calm = true) (gd : X.A.guards = some []) (un : X.A.units + 100 < cLine) (b : Bi1) : CallR X b.val (rS1 RX X.K (evBi1 b)) := by
  intro pins s σ H xs us Q I r ⟨E, H0, μ0, μ, S, a, x, ex, st, t, ha, h⟩
  subst ex
  cases b with
  | len =>
    have key : ∀ ds b', seqOf S a = some (b', ds) → (∀ v, RR X.K H0 H μ (.v (.int ds.length)) v → Q v H) → wpAny (model X.prog X.w) X.A (call (Bi1.val .len) us) (EP X pins σ Q) X.xe s := fun ds b' e q => by
      obtain ⟨p, vs, e1, h1, h2⟩ := seq_any t ha e
      subst e1
      refine call_len pins s σ H _ us Q I r ⟨_, vs.length, rfl, ?_, ?_⟩
      · rcases h1 with h1 | h1
        · exact .inl ⟨vs, h1, rfl⟩
        · exact .inr ⟨vs, h1, rfl⟩
      · rw [← h2.length]; exact q _ (.int _)
    unfold evBi1 at h
    dsimp only at h
    split at h
    · rename_i y
      split at h
      · rename_i hz
        have ex := rd_str ha
        subst ex
        exact call_len pins s σ H _ us Q I r ⟨_, y.length, rfl, ⟨by rw [sizeLine_eq]; exact Nat.ble_eq.mp hz, rfl⟩, h H μ st t _ (.int _)⟩
      · exact h.elim
    · rename_i ds
      cases (show RD X.K H μ (.fl ds) x from ha) with
      | @fl p vs _ h1 h2 =>
        refine call_len pins s σ H _ us Q I r ⟨_, vs.length, rfl, .inl ⟨vs, h1.seq, rfl⟩, ?_⟩
        rw [← h2.length]
        exact h H μ st t _ (.int _)
    · split at h
      · rename_i ds e
        exact key ds _ e (h H μ st t)
      · exact h.elim
  | abs =>
    unfold evBi1 at h
    dsimp only at h
    split at h
    · have ex := rd_int ha
      subst ex
      exact call_abs pins s σ H _ us Q I r ⟨_, rfl, h H μ st t _ (.int _)⟩
    · exact h.elim
  | int =>
    unfold evBi1 at h
    dsimp only at h
    split at h
    · have ex := rd_int ha
      subst ex
      exact call_int1 pins s σ H _ us Q I r (.inl ⟨_, rfl, h H μ st t _ (.int _)⟩)
    · have ex := rd_bl ha
      subst ex
      exact call_int1 pins s σ H _ us Q I r (.inr ⟨_, rfl, h H μ st t _ (.int _)⟩)
    · exact h.elim
  | bool =>
    unfold evBi1 at h
    dsimp only at h
    split at h
    · have ex := rd_int ha
      subst ex
      exact call_bool1 pins s σ H _ us Q I r (.inl ⟨_, rfl, h H μ st t _ (.bl _)⟩)
    · have ex := rd_bl ha
      subst ex
      exact call_bool1 pins s σ H _ us Q I r (.inr ⟨_, rfl, h H μ st t _ (.bl _)⟩)
    · exact h.elim
  | all =>
    unfold evBi1 at h
    dsimp only at h
    split at h
    · rename_i ds e
      split at h
      · rename_i bs eb
        obtain ⟨p, vs, e1, h1, h2, _⟩ := seq_lst t ha e
        have e2 := allBl_of eb h2
        subst e1 e2
        exact cr_all hc pins s σ H _ us Q I r ⟨p, bs, rfl, .inl h1, h H μ st t _ (.bl _)⟩
      · exact h.elim
    · exact h.elim
  | any =>
    unfold evBi1 at h
    dsimp only at h
    split at h
    · rename_i ds e
      split at h
      · rename_i bs eb
        obtain ⟨p, vs, e1, h1, h2, _⟩ := seq_lst t ha e
        have e2 := allBl_of eb h2
        subst e1 e2
        exact cr_any hc pins s σ H _ us Q I r ⟨p, bs, rfl, .inl h1, h H μ st t _ (.bl _)⟩
      · exact h.elim
    · exact h.elim
  | tuple =>
    unfold evBi1 at h
    dsimp only at h
    split at h
    · rename_i b' ds e
      cases b' with
      | true =>
        obtain ⟨ea, p, vs, e1, h1, h2⟩ := seq_tup t ha e
        subst e1
        exact call_tuple_of pins s σ H _ us Q I r ⟨p, vs, rfl, .inr ⟨h1, h H μ st t _ (.tup h1 h2)⟩⟩
      | false =>
        obtain ⟨p, vs, e1, h1, h2, _⟩ := seq_lst t ha e
        subst e1
        exact call_tuple_of pins s σ H _ us Q I r ⟨p, vs, rfl, .inl ⟨.inl h1, fun l hl => h _ μ (st.new hl) (t.new hl) _ (new_tup h2 hl)⟩⟩
    · exact h.elim
  | list =>
    unfold evBi1 at h
    dsimp only at h
    split at h
    · rename_i b' ds e
      obtain ⟨p, vs, e1, h1, h2⟩ := seq_any t ha e
      subst e1
      exact call_list_of pins s σ H _ us Q I r ⟨p, vs, rfl, h1, fun l hl => h _ μ (st.new hl) (t.new hl) _ (new_lst st t h2 hl)⟩
    · exact h.elim
  | repr =>
    obtain ⟨u, rfl, ru⟩ := vals1 r
    unfold evBi1 at h
    dsimp only at h
    obtain ⟨y, e, h⟩ := h.opt
    unfold reprR at e
    obtain ⟨p, e1, e2⟩ := Option.bind_eq_some_iff.mp e
    exact repr_ok I (dpR t ha e1) ru e2 gd un fun t s' J => ⟨.str y, H, J, ⟨t, rfl⟩, h H μ st ‹_› _ (.str _)⟩
theorem call_bi2 (hc : X.calm = true) (b : Bi2) : CallR X b.val (rS2 RX X.K (evBi2 b)) := by
  intro pins s σ H xs us Q I r ⟨E, H0, μ0, μ, S, a, b', x, y, ex, st, t, ha, hb, h⟩
  subst ex
  cases b with
  | min =>
    unfold evBi2 at h
    dsimp only at h
    split at h
    · have e1 := rd_int ha
      have e2 := rd_int hb
      subst e1 e2
      exact call_min2 hc pins s σ H _ us Q I r ⟨_, _, rfl, h H μ st t _ (.int _)⟩
    · exact h.elim
  | max =>
    unfold evBi2 at h
    dsimp only at h
    split at h
    · have e1 := rd_int ha
      have e2 := rd_int hb
      subst e1 e2
      exact call_max2 hc pins s σ H _ us Q I r ⟨_, _, rfl, h H μ st t _ (.int _)⟩
    · exact h.elim
  | divmod =>
    unfold evBi2 at h
    dsimp only at h
    split at h
    · have e1 := rd_int ha
      have e2 := rd_int hb
      subst e1 e2
      split at h
      · rename_i hz
        rw [Bool.and_eq_true] at hz
        exact call_divmod pins s σ H _ us Q I r ⟨_, _, rfl, ⟨of_decide_eq_true hz.1, of_decide_eq_true hz.2⟩, fun p hp => h _ μ (st.new hp) (t.new hp) _ (new_tup (.cons (.int _) (.cons (.int _) .nil)) hp)⟩
      · exact h.elim
    · exact h.elim

/-! ### items, slices -/
def rIt (K : PySem.W.Frag) : R2 := fun x y H Q => ∃ H0 μ S a b d, SR K H μ S ∧ RR K H0 H μ a x ∧ RR K H0 H μ b y ∧ getItem S a b = some d ∧ ∀ v, RD K H μ d v → Q v H
theorem ix_all : IxR X (rIt X.K) := by
  intro value slice pins s σ H x y v u Q I rx ry ⟨H0, μ, S, a, b, d, t, ha, hb, e, q⟩ hs
  have key : ∀ (ii : Int) p vs ds, x = .ref p → y = .int ii → (SqL X.K H p vs ∨ SqT X.K H p vs) → RDs X.K H μ ds vs → atD ds ii = some d → wpAny (model X.prog X.w) X.A _ (EP X pins σ Q) X.xe s := fun ii p vs ds e2 e3 h1 h2 e => by
    subst e2 e3
    have e : (L2.ixN ds.length _).bind (fun j => ds[j]?) = some d := e
    rw [h2.length] at e
    cases e4 : L2.ixN vs.length ii with
    | none => rw [e4] at e; cases e
    | some j =>
      rw [e4] at e
      obtain ⟨w', e5, e6⟩ := h2.get (show ds[j]? = some d from e)
      have e7 : L2.atI vs ii = some w' := by
        show (L2.ixN vs.length _).bind _ = _
        rw [e4]
        exact e5
      refine ix_seq value slice pins s σ H _ _ v u Q I rx ry ?_ hs
      rcases h1 with h1 | h1
      · exact .inl ⟨p, vs, _, w', rfl, rfl, h1, e7, q _ e6⟩
      · exact .inr (.inl ⟨p, vs, _, w', rfl, rfl, h1, e7, q _ e6⟩)
  unfold getItem at e
  split at e
  · rename_i ii
    have e3 := rd_int hb
    split at e
    · rename_i ds
      cases (show RD X.K H μ (.fl ds) x from ha) with
      | @fl p vs _ h1 h2 => exact key ii p vs ds rfl e3 (.inl h1.seq) h2 e
    · split at e
      · rename_i b' ds e1
        obtain ⟨p, vs, e2, h1, h2⟩ := seq_any t ha e1
        exact key ii p vs ds e2 e3 h1 h2 e
      · cases e
  · cases e
def rSl (RX : RXT) (K : PySem.W.Frag) : L2.V → Option Int → Option Int → Hp → VK → Prop := fun x lo hi H Q => ∃ E H0 μ0 μ S a, Step H0 μ0 H μ ∧ SR K H μ S ∧ RR K H0 H μ a x ∧
  Out RX K E H0 μ0 (match seqOf S a with | some (true, ds) => .ok (.v (.tup (slice ds lo hi))) S | some (false, ds) => .ok (.t (slice ds lo hi)) S | none => (.bad : Res R)) fun r S' H' μ' => ∀ v, RR K H0 H' μ' r v → Q v H'
theorem slice_rel {K : PySem.W.Frag} {H : Hp} {μ : List Addr} {ds : List D} {vs : List L2.V} (h : RDs K H μ ds vs) (lo hi : Option Int) : RDs K H μ (slice ds lo hi) (cutV vs lo hi) := by
  unfold slice cutV
  rw [h.length]
  exact (h.drop _).take _
theorem sl_all : SlR X (rSl RX X.K) := by
  intro pins s σ H x v loV hiV lo hi sl Q I rx hs pl pu ⟨E, H0, μ0, μ, S, a, st, t, ha, h⟩
  split at h
  · rename_i ds e
    obtain ⟨ea, p, vs, e1, h1, h2⟩ := seq_tup t ha e
    subst e1
    refine sl_tupA pins s σ H _ v loV hiV lo hi sl Q I rx hs pl pu ⟨p, vs, rfl, h1, fun hw => ?_, fun hw q hq => ?_⟩
    · refine h H μ st t _ (.tup h1 ?_)
      have e2 := slice_rel h2 lo hi
      have e3 : cutV vs lo hi = vs := by
        unfold cutV
        rw [hw.1, hw.2, List.drop_zero, Nat.sub_zero]
        exact List.take_length
      rw [e3] at e2
      exact e2
    · exact h _ μ (st.new hq) (t.new hq) _ (new_tup (slice_rel h2 lo hi) hq)
  · rename_i ds e
    obtain ⟨p, vs, e1, h1, h2, _⟩ := seq_lst t ha e
    subst e1
    exact sl_list pins s σ H _ v loV hiV lo hi sl Q I rx hs pl pu ⟨p, vs, rfl, .inl h1, fun q hq => h _ μ (st.new hq) (t.new hq) _ (new_lst st t (slice_rel h2 lo hi) hq)⟩
  · exact h.elim
end

/-! ### t[::-1] -/
section
variable {prog : Program} {w : World} {A : Around} {E : Value → Shared → Prop} {s : Shared}
theorem places_rev (n : Nat) : Builtin.Slice.slicePlaces ((n : Int) - 1) (-1) (-1) = n := by
  unfold Builtin.Slice.slicePlaces
  rw [if_neg (by decide)]
  by_cases h : 0 < n
  · rw [if_pos (by omega)]
    have : -(-1 : Int) = 1 := by decide
    rw [this, Int.ediv_one]
    omega
  · rw [if_neg (by omega)]
    omega
theorem fm_congr {α β : Type} {f g : α → Option β} : ∀ {l : List α}, (∀ a ∈ l, f a = g a) → l.filterMap f = l.filterMap g
  | [], _ => rfl
  | a :: l, h => by
    rw [List.filterMap_cons, List.filterMap_cons, h a List.mem_cons_self, fm_congr fun b hb => h b (List.mem_cons_of_mem _ hb)]
theorem pick_rev (xs : Array Value) : ((List.range xs.size).filterMap fun (m : Nat) => xs[((xs.size : Int) - 1 + (m : Int) * (-1)).toNat]?).toArray = xs.toList.reverse.toArray := by
  congr 1
  apply List.ext_getElem?
  intro i
  have e1 : ∀ m ∈ List.range xs.size, xs[((xs.size : Int) - 1 + (m : Int) * (-1)).toNat]? = some (xs.toList.reverse.getD m .none) := fun m hm => by
    rw [List.mem_range] at hm
    have e2 : ((xs.size : Int) - 1 + (m : Int) * (-1)).toNat = xs.size - 1 - m := by omega
    have h1 : xs.size - 1 - m < xs.size := by omega
    rw [e2, List.getD_eq_getElem?_getD, List.getElem?_reverse (by simpa using hm)]
    simp [h1]
  have e3 : (List.range xs.size).filterMap (fun (m : Nat) => xs[((xs.size : Int) - 1 + (m : Int) * (-1)).toNat]?) = (List.range xs.size).map fun m => xs.toList.reverse.getD m .none := by
    rw [fm_congr e1, ← List.filterMap_eq_map]
    rfl
  rw [e3, List.getElem?_map]
  by_cases hi : i < xs.size
  · rw [List.getElem?_range hi]
    have hl : i < xs.toList.reverse.length := by simpa using hi
    rw [List.getElem?_eq_getElem hl]
    simp [hl, hi]
  · rw [List.getElem?_eq_none (by simpa using hi), List.getElem?_eq_none (by simpa using hi)]
    rfl
theorem sliceApplied_rev {sl : Addr} {loV hiV vs : Value} {n : Nat} {Q : Int × Int × Nat → Shared → Prop} (hs : s.heap.IsSliceOf sl loV hiV vs) (pl : IsPart loV none) (pu : IsPart hiV none) (ps : IsPart vs (some (-1)))
    (h : Q ((n : Int) - 1, -1, n) s) : wpAny (model prog w) A (Builtin.Slice.sliceApplied (.ref sl) (pure (n : Int))) Q E s := by
  obtain ⟨os, gotO, ofS, dataS⟩ := id hs
  unfold Builtin.Slice.sliceApplied Builtin.Slice.sliceFields
  refine wpAny_bind (wpAny_bind (wpAny_field gotO dataS (x := loV) rfl (wpAny_bind (wpAny_field gotO dataS (x := hiV) rfl (wpAny_bind (wpAny_field gotO dataS (x := vs) rfl (wpAny_pure ?_)))))))
  refine wpAny_bind (HT.slicePart_ ps ?_)
  show wpAny _ _ (if ((-1 : Int) == 0) = true then _ else _) _ _ s
  rw [if_neg (by decide)]
  refine wpAny_bind (HT.slicePart_ pl (wpAny_bind (HT.slicePart_ pu (wpAny_bind (wpAny_pure ?_)))))
  show wpAny _ _ (match Builtin.Slice.sliceAdjust none none (-1) (n : Int) with | (lo, hi) => pure (lo, (-1 : Int), Builtin.Slice.slicePlaces lo hi (-1))) _ _ s
  have ea : Builtin.Slice.sliceAdjust none none (-1) (n : Int) = ((n : Int) - 1, -1) := by
    unfold Builtin.Slice.sliceAdjust
    rfl
  rw [ea]
  show wpAny _ _ (pure ((n : Int) - 1, (-1 : Int), Builtin.Slice.slicePlaces ((n : Int) - 1) (-1) (-1))) _ _ s
  rw [places_rev]
  exact wpAny_pure h
theorem getItem_tuple_rev {t sl : Addr} {items : Array Value} {loV hiV vs : Value} {Q : Value → Shared → Prop} (ht : IsTup s.heap t items) (hs : s.heap.IsSliceOf sl loV hiV vs) (pl : IsPart loV none) (pu : IsPart hiV none) (ps : IsPart vs (some (-1)))
    (h : Q (.ref s.heap.objs.size) { s with heap := s.heap.push { cls := .type "tuple", data := .seq items.toList.reverse.toArray } })
    (hsz : items.size ≤ sizeLine) : wpAny (model prog w) A (PySem.getItem (.ref t) (.ref sl)) Q E s := by
  have room : sizeOk (.seq items.toList.reverse.toArray) := by
    show items.toList.reverse.toArray.size ≤ sizeLine
    simpa using hsz
  obtain ⟨os, gotO, ofS, dataS⟩ := id hs
  have tyS : s.TypeIs (.ref sl) "slice" := ⟨os, gotO, ofS⟩
  unfold PySem.getItem
  try with_reducible refine wpAny_holding ?_
  first | refine wpAny_bind (wpAny_pure ?_) | skip
  refine wpAny_bind (wpAny_sequenceKey ht.typeIs (by decide) ?_)
  refine wpAny_bind (wpAny_callSpecial?_slot (name := Str.ofString "__getitem__") ht.typeIs PyProof.Rows.slot_tuple_getitem
    (wpAny_call_entry PyProof.Rows.slot_tuple_getitem ht.typeIs entry_tuple_getitem ?_ (args_tuple_getitem _ _)))
  show wpAny _ _ (Builtin.Tuple.tupleItemsOf (.ref t) >>= _) _ _ s
  refine wpAny_bind (tupleItemsOf_ ht ?_)
  refine wpAny_bind (wpAny_typeOf tyS ?_)
  rw [if_pos (by decide)]
  refine wpAny_bind (sliceApplied_rev hs pl pu ps ?_)
  have hno : ¬ ((((items.size : Int) - 1) == 0 && (-1 : Int) == 1 && items.size == items.size) = true) := by
    intro q
    rw [Bool.and_eq_true, Bool.and_eq_true] at q
    exact absurd q.1.2 (by decide)
  show wpAny _ _ (if (((items.size : Int) - 1) == 0 && (-1 : Int) == 1 && items.size == items.size) = true then _ else _) _ _ s
  rw [if_neg hno, pick_rev]
  first
    | exact wpAny_bind (m := Builtin.Tuple.tupleExact _) (wpAny_newObj_type (wpAny_pure ⟨_, rfl, wpAny_pure h⟩) room)
    | exact wpAny_bind (m := Builtin.Tuple.tupleExact _) (wpAny_newObj_type (wpAny_bind (wpAny_pure (wpAny_pure ⟨_, rfl, wpAny_pure h⟩))) room)
    | exact wpAny_bind (wpAny_bind (m := Builtin.Tuple.tupleExact _) (wpAny_newObj_type (wpAny_pure (wpAny_pure ⟨_, rfl, wpAny_pure h⟩)) room))
    | exact wpAny_bind (wpAny_bind (m := Builtin.Tuple.tupleExact _) (wpAny_newObj_type (wpAny_pure ⟨_, rfl, wpAny_pure h⟩) room))
end
section
variable {X : Cx}
def tRevT (K : PySem.W.Frag) (te : TE) : TE := fun σ H Q => te σ H fun x H1 => ∃ a xs, x = .ref a ∧ ((SqT K H1 a xs ∧ ∀ p, H1 p = none → Q (.ref p) (upd H1 p (.tup xs.reverse))) ∨ (SqL K H1 a xs ∧ ∀ p, H1 p = none → Q (.ref p) (upd H1 p (.lst xs.reverse))))
theorem pe_revT {e : Expr} {te : TE} {k : Nat} {p1 p2 p3 pos : Pos} (he : PE X e te) : PE X (.Subscript e (.Slice none none (some (.UnaryOp .USub (.Constant (.int 1) k p1) p2)) p3) pos) (tRevT X.K te) := by
  refine ⟨fun pins s σ H Q I h => ?_⟩
  refine Subscript_ (thn (he.run pins s σ H _ I h) fun v s1 ⟨x, H1, I1, r1, q1⟩ => ?_)
  obtain ⟨a, xs, ex, q⟩ := q1
  subst ex
  cases r1
  have hst : PO X (some (.UnaryOp .USub (.Constant (.int 1) k p1) p2)) (tPart (tUn (rU fun i => .int (-i)) (tC (.int 1)))) := po_some (pe_un un_neg pe_int)
  refine wpAny_Slice (thn (po_none.run pins s1 σ H1 (fun o HB => o = none ∧ HB = H1) I1 ⟨rfl, rfl⟩) fun loV sB ⟨l, HB, IB, pl, el, e2⟩ => ?_)
  subst el e2
  refine thn (po_none.run pins sB σ HB (fun o HC => o = none ∧ HC = HB) IB ⟨rfl, rfl⟩) fun hiV sC ⟨u, HC, IC, pu, eu, e3⟩ => ?_
  subst eu e3
  refine thn (hst.run pins sC σ HC (fun o HD => o = some (-1) ∧ HD = HC) IC ⟨1, rfl, -1, rfl, rfl, rfl⟩) fun vs sD ⟨o, HD, ID, ps, eo, e4⟩ => ?_
  subst eo e4
  have IE : Inv X pins σ HD { sD with heap := sD.heap.push { cls := .type "slice", data := .fields #[loV, hiV, vs] } } := ID.kept (t' := sD.toks) fun b ob q => Heap.get?_push_of_some _ q
  rcases q with ⟨hx, q⟩ | ⟨hx, q⟩
  · obtain ⟨its, r, ht, hz⟩ := IE.tuple hx
    have hlen := r.length
    show wpAny (model X.prog X.w) X.A (subscriptTail e (.Slice none none (some (.UnaryOp .USub (.Constant (.int 1) k p1) p2)) p3) (.ref a) (.ref sD.heap.objs.size)) (EP X pins σ Q) X.xe { sD with heap := sD.heap.push { cls := .type "slice", data := .fields #[loV, hiV, vs] } }
    refine tail_any (ops := [.ref a, .ref sD.heap.objs.size]) ht.typeIs (PyProof.Rows.slot_tuple_getitem.lookup) ?_ (by with_unfolding_all rfl)
    refine getItem_tuple_rev ht (Heap.IsSliceOf.new _ loV hiV vs) pl pu ps ?_ (by rw [List.size_toArray]; omega)
    refine ⟨.ref _, _, IE.laid (t' := sD.toks) (o := .tup xs.reverse) (fun b ob q => Heap.get?_push_of_some _ q) (Nat.le_refl _) ?_, rfl, q _ (IE.hok.fresh (Nat.le_refl _))⟩
    exact ⟨by rw [List.length_reverse]; exact hz, _, r.reverse, IsTup.new _ _⟩
  · obtain ⟨its, r, ht, hz⟩ := IE.list hx
    have hlen := r.length
    show wpAny (model X.prog X.w) X.A (subscriptTail e (.Slice none none (some (.UnaryOp .USub (.Constant (.int 1) k p1) p2)) p3) (.ref a) (.ref sD.heap.objs.size)) (EP X pins σ Q) X.xe { sD with heap := sD.heap.push { cls := .type "slice", data := .fields #[loV, hiV, vs] } }
    refine tail_any (ops := [.ref a, .ref sD.heap.objs.size]) ht.isList.typeIs (PySem.slot_list_getitem.lookup) ?_ (by with_unfolding_all rfl)
    refine wpAny_getItem_list_slice ht.isList (Heap.IsSliceOf.new _ loV hiV vs) pl pu ps (by decide) ?_ (by rw [List.size_toArray]; omega)
    rw [PySem.W.krv_pick]
    refine ⟨.ref _, _, IE.laid (t' := sD.toks) (o := .lst xs.reverse) (fun b ob q => Heap.get?_push_of_some _ q) (Nat.le_refl _) ?_, rfl, q _ (IE.hok.fresh (Nat.le_refl _))⟩
    exact ⟨by rw [List.length_reverse]; exact hz, _, 0, r.reverse, Heap.get?_push_size _ rfl⟩
end
end Q
end
section
-- Snd6
set_option Elab.async false
set_option linter.all false
set_option maxRecDepth 100000
set_option maxHeartbeats 4000000
/-! enumerate of a tuple -/
namespace PySem
open Sem (wp)
open AutoSeq1 (wpAny_loadPart')
set_option maxHeartbeats 1000000 in
theorem meets_enumerate_newB1 {v : Value} {o : Obj} {H : Heap → Prop} (B : Begins v o H) :
    Meets (Builtin.«enumerate.__new__» ⟨[.type "enumerate", v], []⟩) (fun _ R s => H s.heap ∧
      R (.ok (.ret (.ref (s.heap.push o).objs.size))) { s with heap := (s.heap.push o).push { cls := .type "enumerate", data := .fields #[.none, .bool false, .ref s.heap.objs.size, rawInt 0, .none, .none] } }) :=
  .of_wp fun prog w A R s h => by
    obtain ⟨heap0, g, d, tok, os0⟩ := s; obtain ⟨h1, h⟩ := h
    have hsub := sub_enumerate
    have qA : ∀ {A' : Around} {E : Value → Shared → Prop} {Q : Value → Shared → Prop}, Q (.ref heap0.objs.size) ⟨heap0.push o, g, d, tok, os0⟩ → wpAny (model prog w) A' (pyIter v) Q E ⟨heap0, g, d, tok, os0⟩ :=
      fun q => B.iter prog w _ _ ⟨heap0, g, d, tok, os0⟩ _ h1 q
    wp_walk using qA
    refine wpAny_stack_any fun st => wpAny_pure ?_
    split
    · rename_i c _ _ _ _ _
      cases (c == Value.type "enumerate")
      · wp_walk using qA
        exact ⟨_, rfl, h⟩
      · wp_walk using qA
        exact ⟨_, rfl, h⟩
    · wp_walk using qA
      exact ⟨_, rfl, h⟩
theorem call_enumerate_B {prog : Program} {w : World} {A : Around} {E : Value → Shared → Prop} {s : Shared} {v : Value} {o : Obj} {H : Heap → Prop} {Q : Value → Shared → Prop} (B : Begins v o H) (h1 : H s.heap)
    (h : ∀ h', IsEnum h' (s.heap.objs.size + 1) s.heap.objs.size 0 .none → h'.get? s.heap.objs.size = some o → h'.objs.size = s.heap.objs.size + 2 →
      (∀ b o, s.heap.get? b = some o → h'.get? b = some o) → Q (.ref (s.heap.objs.size + 1)) { s with heap := h' }) :
    wpAny (model prog w) A (call (.type "enumerate") [v]) Q E s := by
  refine callType_new F.called_enumerate (by decide) (F.typeCall_enumerate_1 _) (F.newCall_enumerate_1 _) (fun obj => F.args_object_init_2 obj _) F.entry_enumerate_new
    (meets_enumerate_newB1 B) ⟨h1, ?_⟩
  have zz : (s.heap.push o).objs.size = s.heap.objs.size + 1 := Heap.size_push ..
  show _ ∧ _
  rw [zz]
  have isE : IsEnum ((s.heap.push o).push { cls := .type "enumerate", data := .fields #[.none, .bool false, .ref s.heap.objs.size, rawInt 0, .none, .none] }) (s.heap.objs.size + 1) s.heap.objs.size 0 .none := by
    have := Heap.get?_push_size (s.heap.push o) (o := { cls := .type "enumerate", data := .fields #[.none, .bool false, .ref s.heap.objs.size, rawInt 0, .none, .none] }) rfl
    rw [zz] at this; exact this
  refine ⟨⟨_, isE, rfl⟩, h _ isE (Heap.get?_push_of_some _ (Heap.get?_push_size _ B.free)) (by rw [Heap.size_push, zz]) fun b o x => Heap.get?_push_of_some _ (Heap.get?_push_of_some _ x)⟩
end PySem
namespace Q
open PySem PySem.Spec PyProof.Rows L2
/-- the tuple at a, each item in a new pair -/
def IteT (K : PySem.W.Frag) (a : Addr) : L2.It :=
  ⟨fun i H => ∃ (xs : List L2.V) (x : L2.V), SqT K H a xs ∧ xs[i]? = some x, fun i H v H' => ∃ T x, v = .ref T ∧ H T = none ∧ H' = upd H T (.tup [.int (i : Nat), x]) ∧ ∀ xs, SqT K H a xs → xs[i]? = some x, fun i H => ∃ xs : List L2.V, SqT K H a xs ∧ xs.length = i⟩
theorem turn_enumT {P : Program} {w : World} {K : PySem.W.Frag} {elts : List Expr} {kk : Nat} {tpos : Pos} (a e it : Addr) (hae : a ≠ e) (hai : a ≠ it) :
    Turn P w K (.Tuple elts kk tpos) (IteT K a) [e, it] e (fun i h => (∃ prev, IsEnum h e it ((i : Nat) : Int) prev) ∧ h.IsTupleIter it a i ∧ e ≠ it) where
  mem := by simp
  obj := fun i h st b inb => by
    obtain ⟨⟨prev, isE⟩, ⟨o, ho, ofC, dat⟩, _⟩ := st
    have oneOf : b = e ∨ b = it := by simpa using inb
    rcases oneOf with z | z
    · rw [z]; exact ⟨_, isE, fun v q => nomatch q⟩
    · rw [z]; exact ⟨o, ho, fun v q => by rw [dat] at q; cases q⟩
  keep := fun i h h' st k => let ⟨⟨prev, isE⟩, hi, apart⟩ := st; ⟨⟨prev, k e (by simp) _ isE⟩, hi.at fun o q => k it (by simp) o q, apart⟩
  item := by
    intro X hP hw hK ofC i pins s σ H E I hf st hg
    subst hP hw hK
    obtain ⟨⟨prev, isE⟩, isI, apart⟩ := st
    obtain ⟨xs, x, sq, atX⟩ := hg
    obtain ⟨vals, rvals, p, zz⟩ := I.tuple sq
    obtain ⟨u, atU, relU⟩ := rvals.get atX
    have ltE : e < s.heap.objs.size := Heap.lt_size isE
    have ltI : it < s.heap.objs.size := by obtain ⟨_, q, _⟩ := isI; exact Heap.lt_size q
    have hi : i < vals.toArray.size := by
      have := (List.getElem?_eq_some_iff.mp atU).1
      simpa using this
    have asT : s.heap.IsTuple a vals.toArray := p
    have D := Draws.tuple (prog := X.prog) (w := X.w) (A := X.A.in1) (by show X.A.handled = none; exact I.ok.hd ofC) it a hai vals.toArray
    refine wpAny_pyNext_enum_itemC D isE ⟨isI, asT⟩ hi apart (by simp [apart, Ne.symm hae]) fun y h' tok hy ho hst' pair hsz keeps => ?_
    obtain ⟨hit', pt'⟩ := hst'
    have ey : y = u := by
      rw [show vals.toArray[i]? = vals[i]? by simp, atU] at hy
      exact (Option.some.inj hy).symm
    subst ey
    refine ⟨_, rfl, wpAny_letOwnedTupleGo_enum (s := { s with heap := h', toks := tok + 1 }) ho fun h'' he' same => ?_⟩
    have pair2 : h''.get? s.heap.objs.size = some { cls := .type "tuple", data := .seq #[.int i tok, y] } := (same.2 _ (Nat.ne_of_gt ltE)).trans pair
    have new : ObjOk X.prog X.w (upd H s.heap.objs.size (.tup [.int (i : Nat), x])) h'' s.heap.objs.size (.tup [.int (i : Nat), x]) :=
      ⟨by show 2 ≤ sizeLine; decide, [.int i tok, y], .cons ⟨_, rfl⟩ (.cons relU .nil), ⟨_, pair2, rfl, _, rfl⟩⟩
    have IA : Inv X pins σ (upd H s.heap.objs.size (.tup [.int (i : Nat), x])) { s with heap := h'', toks := tok + 1 } :=
      I.turnedNew (ch := [e, it]) (fun b ob inb q => (same.2 b (fun z => inb (by simp [z]))).trans (keeps b ob (fun z => inb (by simp [z])) (fun z => inb (by simp [z])) q)) hf (Nat.le_refl _) new
    refine ⟨.ref s.heap.objs.size, _, IA, rfl, ⟨_, x, rfl, I.hok.fresh (Nat.le_refl _), rfl, fun ys hy => by rw [I.tuple_inj hy sq]; exact atX⟩, ⟨⟨y, ?_⟩, hit'.at fun o q => (same.2 it (Ne.symm apart)).trans q, apart⟩, fun b inb => ?_⟩
    · have e1 : ((i + 1 : Nat) : Int) = (i : Int) + 1 := by omega
      rw [e1]; exact he'
    · have belowb : b < s.heap.objs.size := by
        have oneOf : b = e ∨ b = it := by simpa using inb
        rcases oneOf with z | z
        · rw [z]; exact ltE
        · rw [z]; exact ltI
      rw [upd_ne (Nat.ne_of_lt belowb)]
      exact (hf b inb).1
  done := by
    intro X hP hw hK ofC i pins s σ H E I hf st hg
    subst hP hw hK
    obtain ⟨⟨prev, isE⟩, isI, apart⟩ := st
    obtain ⟨xs, sq, atX⟩ := hg
    obtain ⟨vals, rvals, p, zz⟩ := I.tuple sq
    have hl := rvals.length
    have asT : s.heap.IsTuple a vals.toArray := p
    have D := Draws.tuple (prog := X.prog) (w := X.w) (A := X.A.in1) (by show X.A.handled = none; exact I.ok.hd ofC) it a hai vals.toArray
    have en : vals.toArray.size = i := by rw [List.size_toArray]; omega
    rw [en] at D
    refine wpAny_pyNext_enum_endD D isE ⟨isI, asT⟩ fun h' eb => ⟨rfl, I.turnedL (t' := s.toks) (ch := [e, it]) (fun b o inb q => eb b o (fun z => inb (by simp [z])) q) hf⟩
  self := fun A i s Q E st h => let ⟨⟨_, isE⟩, _⟩ := st; wpAny_pyIter_enum isE h
def iEnumA (K : PySem.W.Frag) (ta : TA) : TI := fun σ H R => ta σ H fun vs HA => ∃ a xs, vs = [.ref a] ∧ SqT K HA a xs ∧ R (IteT K a) HA
theorem pi_enumA {X : Cx} {e : Expr} {ta : TA} {p pos tpos : Pos} {elts : List Expr} {kk : Nat} (hg : Gl X "enumerate") (hm : X.mg "enumerate" = none) (ha : PA X [e] ta) (hs : starEach [e] X.env = [(false, eval e X.env)] := by rfl) :
    PI X (.Tuple elts kk tpos) (.Call (.Name "enumerate" p) [e] [] pos) (iEnumA X.K ta) := by
  refine ⟨fun pins s σ H R I h => ?_⟩
  refine Call_ (ld_blt I hg hm boot_enumerate (PyProof.Rows.callWith_type1 (thn (ha.run pos pins s σ H _ I h) fun us sA ⟨vs, HA, IA, rA, qA⟩ => ?_) hs rfl))
  obtain ⟨a, xs, ex, sq, q⟩ := qA
  subst ex
  cases rA with
  | cons r rr =>
    cases rr
    cases r
    obtain ⟨vals, rvals, p', zz⟩ := IA.tuple sq
    have asT : sA.heap.IsTuple a vals.toArray := p'
    refine call_enumerate_B (begins_tuple a vals.toArray) asT fun h' isE isI hsz keeps => wpAny_pyIter_enum isE ?_
    have IB : Inv X pins σ HA { sA with heap := h' } := IA.kept (t' := sA.toks) keeps
    have hal : a < sA.heap.objs.size := by obtain ⟨o, ho, _⟩ := p'; exact Heap.lt_size ho
    refine ⟨sA.heap.objs.size + 1, [sA.heap.objs.size + 1, sA.heap.objs.size], _, _, HA, rfl, IB, turn_enumT a (sA.heap.objs.size + 1) sA.heap.objs.size (Nat.ne_of_lt (Nat.lt_succ_of_lt hal)) (Nat.ne_of_lt hal), ⟨⟨.none, isE⟩, ⟨_, isI, rfl, rfl⟩, Nat.succ_ne_self _⟩, fun b inb => ?_, q⟩
    have oneOf : b = sA.heap.objs.size + 1 ∨ b = sA.heap.objs.size := by simpa using inb
    have lowb : sA.heap.objs.size ≤ b := by
      rcases oneOf with z | z
      · rw [z]; exact Nat.le_add_right _ _
      · rw [z]; exact Nat.le_refl _
    exact IA.fpOk lowb (IA.hok.fresh lowb)
theorem walk_enumT {K : PySem.W.Frag} {a : Addr} {xs : List L2.V} : Walk (IteT K a) xs.length (fun H => SqT K H a xs) (YPair (fun i => some (.int (i : Nat))) (fun i => xs[i]?)) :=
  ⟨fun i H hi h => ⟨xs, xs[i], h, by simp [hi]⟩, fun H h => ⟨xs, h, rfl⟩, fun i H x H' hi h ⟨T, y, e, hn, oneOf, f⟩ => ⟨T, _, y, e, hn, oneOf, rfl, f xs h⟩⟩
theorem walk_zipT {K : PySem.W.Frag} {a b : Addr} {xs ys : List L2.V} {n : Nat} (hn : n = min xs.length ys.length) : Walk (RZ.ItzT K a b) n (fun H => SqT K H a xs ∧ SqT K H b ys) (YPair (fun i => xs[i]?) (fun i => ys[i]?)) :=
  ⟨fun i H hi h => ⟨xs, ys, xs[i]'(by omega), ys[i]'(by omega), h.1, h.2, by simp [show i < xs.length by omega], by simp [show i < ys.length by omega]⟩,
    fun H h => ⟨xs, ys, h.1, h.2, by omega⟩, fun i H x H' hi h ⟨T, y, z, e, hn, oneOf, f, g⟩ => ⟨T, y, z, e, hn, oneOf, f xs h.1, g ys h.2⟩⟩
end Q
end
section
-- Snd7
set_option Elab.async false
set_option linter.all false
set_option maxRecDepth 100000
set_option maxHeartbeats 4000000
namespace Q
open PySem PySem.Spec PyProof.Rows L2

/-! ### the text's form -/
theorem star_cons (env : PySem.Env) : ∀ (m : Nm) (e : E) (ps : PL) (l : List Expr), starEach ((pE m e ps).1 :: l) env = (false, eval (pE m e ps).1 env) :: starEach l env := by
  intro m e ps l
  cases e <;> rfl
theorem star_plain (env : PySem.Env) (pos : Pos) : ∀ (m : Nm) (es : Es) (ps : PL), (backTo pos (starEach (pEs m es ps).1 env)).any (·.1) = false
  | m, .nil, ps => rfl
  | m, .cons e r, ps => by
    have e1 : (pEs m (.cons e r) ps).1 = (pE m e ps).1 :: (pEs m r (pE m e ps).2).1 := by rw [pEs]
    rw [e1, star_cons]
    exact star_plain env pos m r _
theorem asg_each (env : PySem.Env) : ∀ (m : Nm) (t : T) (ps : PL) (l : List Expr), assignEach ((pT m t ps).1 :: l) env = (false, assign (pT m t ps).1 env) :: assignEach l env := by
  intro m t ps l
  cases t <;> rfl
theorem asg_len (env : PySem.Env) : ∀ (m : Nm) (ts : Ts) (ps : PL), (assignEach (pTs m ts ps).1 env).length = (pTs m ts ps).1.length ∧ (assignEach (pTs m ts ps).1 env).findIdx? (·.1) = none
  | m, .nil, ps => ⟨rfl, rfl⟩
  | m, .cons t r, ps => by
    have e1 : (pTs m (.cons t r) ps).1 = (pT m t ps).1 :: (pTs m r (pT m t ps).2).1 := by rw [pTs]
    obtain ⟨h1, h2⟩ := asg_len env m r (pT m t ps).2
    rw [e1, asg_each]
    refine ⟨by rw [List.length_cons, List.length_cons, h1], ?_⟩
    rw [List.findIdx?_cons, h2]
    rfl
theorem no_fold (env : PySem.Env) : ∀ (m : Nm) (it : It) (ps : PL) x, foldedSetIterable (pI m it ps).1 env x = pure x := by
  intro m it ps x
  cases it with
  | seq e => cases e <;> rfl
  | _ => rfl
theorem no_mark (o : CmpOp) : ∀ (m : Nm) (e : E) (ps : PL), behindInMarks o (pE m e ps).1 = false := by
  intro m e ps
  cases e <;> rfl
theorem no_swap (env : PySem.Env) (tg : Option Expr) (l : Nat) : ∀ (m : Nm) (e : E) (ps : PL), (∀ a b c d e', e ≠ .lc a b c d e') → (∀ a b c d e', e ≠ .flc a b c d e') → (∀ a b c d, e ≠ .words a b c d) → swapsWith (pE m e ps).1 tg l env = pure false := by
  intro m e ps h h2 h'
  cases e <;> first | rfl | exact absurd rfl (h _ _ _ _ _) | exact absurd rfl (h2 _ _ _ _ _) | exact absurd rfl (h' _ _ _ _)

/-- a def's promise where no text is under way -/
structure FnG (P : Program) (w : World) (K : PySem.W.Frag) (mg : Str → Option Value) (base : Heap) (CX : CXT) (k : Nat) (f : Addr) (fd : FuncData) (ps : List Str) (sp : Sp) : Prop where
  arity : ∀ vs H Q E, sp vs H Q E → vs.length = ps.length
  go : ∀ (A : Around) (up : List PySem.Env) (s : Shared) (H : Hp) (args : Args) (us : List Value) (vs : List L2.V) (Q : VK) (E : XK), Room k A → A.guards = some [] → Env0 P w K mg base A up s H →
    BindsTo s fd args (ps.zip us) → Vals vs us → sp vs H Q E → codeAny (model P w) A (.call (.ref f) args) (L2.CR CX up P w H s Q E) s
section
variable {X : Cx} {CX : CXT} {k : Nat} {f : Addr} {fd : FuncData} {ps : List Str} {sp : Sp} {dvs : List L2.V} {ds : List Value} {E : L2.St → XK} {x : Str} {p pos : Pos} {e : Expr} {es : List Expr} {t : TA}
/-- a def that a slot holds is called -/
def tCallV (X : Cx) (CX : CXT) (i : Nat) (E : L2.St → XK) (t : TA) : TE := fun σ H Q => ∃ (k : Nat) (f : Addr) (fd : FuncData) (ps : List Str) (sp : Sp) (dvs : List L2.V) (ds : List Value), σ[i]? = some (some (.ref f)) ∧ FnG X.prog X.w X.K X.mg X.base CX k f fd ps sp ∧ Room k X.A ∧ PySem.W.keepIn X.K (.ref f) = true ∧ Binds X.K fd ps ds ∧ Vals dvs ds ∧ t σ H (fun vs H1 => sp (vs ++ dvs) H1 Q (E σ))
theorem pe_callV {i : Nat} (gd : X.A.guards = some []) (hN : X.N[i]? = some x) (hv : Vis X.env.scope x) (hcd : (x == ("__classdict__" : Str)) = false)
    (hx : ∀ σ, PassesAt CX X σ (E σ)) (ha : PA X (e :: es) t) (hdb : (x == ("__debug__" : Str)) = false) (he : starEach (e :: es) X.env = (false, eval e X.env) :: starEach es X.env) (hpl : (backTo pos (starEach es X.env)).any (·.1) = false) :
    PE X (.Call (.Name x p) (e :: es) [] pos) (tCallV X CX i E t) := by
  refine ⟨fun pins s σ H Q I ⟨k, f, fd, ps, sp, dvs, ds, hσ, F, hr, hk, hb, hd, h⟩ => ?_⟩
  refine wpAny_Call_Name_kw (thn ((pe_var (pos := p) (i := i) hN hv hdb hcd).run pins s σ H (fun v H1 => v = .ref f ∧ H1 = H) I ⟨.ref f, hσ, rfl, rfl⟩) fun u s0 ⟨v, H0, I0, r0, q0⟩ => ?_)
  obtain ⟨ev, eH⟩ := q0
  subst ev
  rw [eH] at I0
  obtain rfl : u = Value.ref f := r0
  refine PySem.W.callWith_K (h₀ := X.base) I0.ok.mod.kin hk (thn (ha.run pos pins s0 σ H _ I0 h) ?_) he hpl
  rintro us s1 ⟨vs, H1, J, rv, q⟩
  refine ⟨J.kIn, ?_⟩
  have all : Vals (vs ++ dvs) (us ++ ds) := rv.append hd
  have n : (us ++ ds).length = ps.length := all.length ▸ F.arity _ _ _ _ q
  refine wpAny_call (codeAny_mono (F.go _ _ s1 H1 ⟨us, []⟩ _ _ Q (E σ) hr gd J.env0 (hb s1 us J.kIn n) all q) ?_)
  rintro (err | fl) s2 hq
  · exact hx σ pins H1 s1 err s2 J hq
  · cases fl with
    | ret u => exact J.after hq
    | _ => exact hq.elim
/-- such a def is called -/
theorem pe_callG (F : FnG X.prog X.w X.K X.mg X.base CX k f fd ps sp) (hr : Room k X.A) (gd : X.A.guards = some []) (hg : Gl X x) (hm : X.mg x = some (.ref f)) (hk : PySem.W.keepIn X.K (.ref f) = true) (hb : Binds X.K fd ps ds) (hd : Vals dvs ds)
    (hx : ∀ σ, PassesAt CX X σ (E σ)) (ha : PA X (e :: es) t) (hdb : (x == ("__debug__" : Str)) = false) (he : starEach (e :: es) X.env = (false, eval e X.env) :: starEach es X.env) (hpl : (backTo pos (starEach es X.env)).any (·.1) = false) :
    PE X (.Call (.Name x p) (e :: es) [] pos) (tCallSD sp dvs E t) := by
  refine ⟨fun pins s σ H Q I h => wpAny_Call_Name_kw (ld_glob I hg hm (PySem.W.callWith_K (h₀ := X.base) I.ok.mod.kin hk (thn (ha.run pos pins s σ H _ I h) ?_) he hpl) hdb)⟩
  rintro us s1 ⟨vs, H1, J, rv, q⟩
  refine ⟨J.kIn, ?_⟩
  have all : Vals (vs ++ dvs) (us ++ ds) := rv.append hd
  have n : (us ++ ds).length = ps.length := all.length ▸ F.arity _ _ _ _ q
  refine wpAny_call (codeAny_mono (F.go _ _ s1 H1 ⟨us, []⟩ _ _ Q (E σ) hr gd J.env0 (hb s1 us J.kIn n) all q) ?_)
  rintro (err | fl) s2 hq
  · exact hx σ pins H1 s1 err s2 J hq
  · cases fl with
    | ret u => exact J.after hq
    | _ => exact hq.elim
/-- .. without an argument -/
theorem pe_callG0 (F : FnG X.prog X.w X.K X.mg X.base CX k f fd ps sp) (hr : Room k X.A) (gd : X.A.guards = some []) (hg : Gl X x) (hm : X.mg x = some (.ref f)) (hk : PySem.W.keepIn X.K (.ref f) = true) (hb : Binds X.K fd ps ds) (hd : Vals dvs ds)
    (hx : ∀ σ, PassesAt CX X σ (E σ)) (hdb : (x == ("__debug__" : Str)) = false) :
    PE X (.Call (.Name x p) [] [] pos) (tCallSD sp dvs E tNil) := by
  refine ⟨fun pins s σ H Q I h => wpAny_Call_Name_kw (ld_glob I hg hm (PySem.W.callWith_K0 (first := []) I.kIn hk ?_) hdb)⟩
  have h : sp ([] ++ dvs) H Q (E σ) := h
  have all : Vals ([] ++ dvs) ([] ++ ds) := Vals.append .nil hd
  have n : (([] : List Value) ++ ds).length = ps.length := all.length ▸ F.arity _ _ _ _ h
  refine wpAny_call (codeAny_mono (F.go _ _ s H ⟨[], []⟩ _ _ Q (E σ) hr gd I.env0 (hb s [] I.kIn n) all h) ?_)
  rintro (err | fl) s2 hq
  · exact hx σ pins H s err s2 I hq
  · cases fl with
    | ret u => exact I.after hq
    | _ => exact hq.elim
end
def bnames : List Str := ["len", "abs", "int", "bool", "all", "any", "tuple", "list", "repr", "sorted", "min", "max", "divmod", "str", "dict", "isinstance", "range", "zip", "enumerate"]
section
variable (RX : RXT)
/-- a call's promise -/
def spC (K : PySem.W.Frag) (call : Nat → List D → Store → Res R) (f : Nat) : Sp := fun vs H Q E => ∃ ds μ S, SR K H μ S ∧ RDs K H μ ds vs ∧ (∃ ν, μ = RX.lp.tabs ++ ν) ∧ Out RX K E H μ (call f ds S) fun r S' H' μ' => ∀ v, RR K H H' μ' r v → Q v H'
/-- how defaults fill up -/
def BdOk (K : PySem.W.Frag) (F : Fn) (fd : FuncData) (ps : List Str) : Prop := ∀ n, n ≤ F.np → F.np ≤ n + F.df.length → ∃ us dvs, Binds K fd ps us ∧ Vals dvs us ∧ ∀ H μ, RDs K H μ (F.df.drop (F.df.length - (F.np - n))) dvs
/-- what is known of a class -/
structure ClsAt (C : Ctx) (call : Nat → List D → Store → Res R) (X : Cx) (nm : Str) (I : ClsI) : Prop where
  ex : ∃ Ca : Addr, PySem.W.nsIn X.K mainGlobals nm = some (some (.ref Ca)) ∧ Cls X.K Ca ∧ (∀ f, I.fl.contains f = true → NoAttr X.K Ca f) ∧
    (∀ f g, I.ms.lookup f = some g → ∃ F fa fd ps k, C.fns[g]? = some F ∧ Meth X.K Ca f fa ∧ FnG X.prog X.w X.K X.mg X.base (L2.CX X.prog X.w) k fa fd ps (spC RX X.K call g) ∧ Room k X.A ∧ BdOk X.K F fd ps) ∧
    ∀ g, I.ini = some g → ∃ F fa fd ps k, C.fns[g]? = some F ∧ Mk X.K Ca fa ∧ X.mg nm = some (.ref Ca) ∧ FnG X.prog X.w X.K X.mg X.base (L2.CX X.prog X.w) k fa fd ps (spC RX X.K call g) ∧ Room (k + 1) X.A ∧ BdOk X.K F fd ps
/-- where one stands -/
structure Site (C : Ctx) (call : Nat → List D → Store → Res R) (m : Nm) (X : Cx) (W : WX) : Prop where
  sc : X.env.scope = m.sc
  nN : X.N = m.N
  nd : m.N.Nodup
  cs : RX.lp.cs = m.cs
  tb : RX.lp.tabs.length = C.tbls.length
  calm : X.calm = true
  fs : ∀ x, m.fs x = true → X.fn x = true
  tk : Takes X W
  bt : ∀ x ∈ bnames, X.mg x = none
  gl : ∀ (j : Nat) d, C.glb[j]? = some d → ∃ v u, X.mg (nmOf m.gl j) = some u ∧ RelV v u ∧ ∀ H μ, RD X.K H μ d v
  un : X.A.units + 100 < cLine
  gd : X.A.guards = some []
  wd : m.top = true → ∀ (w i x k : Nat) (ps : PL), kE m (.words w i x k) = true → PE X (pE m (.words w i x k) ps).1 (tE RX X.K W (evE C call (.words w i x k)))
  kl : ∀ nm I, C.clss.lookup nm = some I → ClsAt RX C call X nm I
  wl : m.top = true → ∀ (w j : Nat) (is : List Nat) (ps : PL), kE m (.lwd w j is) = true → PE X (pE m (.lwd w j is) ps).1 (tE RX X.K W (evE C call (.lwd w j is)))
  fv : ∀ (f : Nat) v, RX.lp.fnv f v → ∃ x np nd a, m.fn[f]? = some (x, np, nd) ∧ v = .ref a ∧ X.mg x = some (.ref a)
  fv' : ∀ (f : Nat) x np nd a, m.fn[f]? = some (x, np, nd) → X.mg x = some (.ref a) → RX.lp.fnv f (.ref a)
  fn : ∀ f x np nd, m.fn[f]? = some (x, np, nd) → ∃ F fa fd ps k, C.fns[f]? = some F ∧ F.np = np ∧ F.df.length = nd ∧ X.mg x = some (.ref fa) ∧ PySem.W.keepIn X.K (.ref fa) = true ∧
    FnG X.prog X.w X.K X.mg X.base (L2.CX X.prog X.w) k fa fd ps (spC RX X.K call f) ∧ Room k X.A ∧
    ∀ n, n ≤ np → np ≤ n + nd → ∃ us dvs, Binds X.K fd ps us ∧ Vals dvs us ∧ ∀ H μ, RDs X.K H μ (F.df.drop (F.df.length - (F.np - n))) dvs
end
section
variable {RX : RXT} {C : Ctx} {call : Nat → List D → Store → Res R} {m : Nm} {X : Cx} {W : WX}
theorem Site.g (st : Site RX C call m X W) {x : Str} (h : isG m x = true) : Gl X x ∧ (x == ("__debug__" : Str)) = false ∧ x ≠ "__name__" := by
  unfold isG at h
  rw [Bool.and_eq_true, Bool.and_eq_true] at h
  obtain ⟨⟨h1, h2⟩, h3⟩ := h
  refine ⟨?_, by simpa using h2, by simpa using h3⟩
  show X.env.scope.names.lookup x = some .globalImplicit
  rw [st.sc]
  exact eq_of_beq h1
theorem kindV_of {k : Option NameKind} (h : kindV k = true) : k = some .local ∨ k = some .cell ∨ k = some .free := by
  unfold kindV at h
  rw [Bool.or_eq_true, Bool.or_eq_true] at h
  rcases h with (h | h) | h
  · exact .inl (eq_of_beq h)
  · exact .inr (.inl (eq_of_beq h))
  · exact .inr (.inr (eq_of_beq h))
theorem nm_at {l : List Str} {i : Nat} (h : i < l.length) : l[i]? = some (nmOf l i) := by
  unfold nmOf
  rw [List.getD_eq_getElem?_getD, List.getElem?_eq_getElem h]
  rfl
theorem Site.v (st : Site RX C call m X W) {i : Nat} (h : isV m i = true) : X.N[i]? = some (nmOf m.N i) ∧ Vis X.env.scope (nmOf m.N i) ∧ (nmOf m.N i == ("__debug__" : Str)) = false ∧ (nmOf m.N i == ("__classdict__" : Str)) = false ∧ RX.lp.cs.contains i = false := by
  unfold isV at h
  rw [Bool.and_eq_true, Bool.and_eq_true, Bool.and_eq_true, Bool.and_eq_true] at h
  obtain ⟨⟨⟨⟨h1, h2⟩, h3⟩, h4⟩, h5⟩ := h
  refine ⟨by rw [st.nN]; exact nm_at (Nat.blt_eq.mp h1), ?_, by simpa using h3, by simpa using h4, by rw [st.cs]; exact (Bool.not_eq_true' _).mp h5⟩
  unfold Vis
  rw [st.sc]
  exact kindV_of h2
theorem Site.a (st : Site RX C call m X W) {i : Nat} (h : isA m i = true) : X.N[i]? = some (nmOf m.N i) ∧ L2.Loc X.env.scope (nmOf m.N i) ∧ (X.fn (nmOf m.N i) = true ∨ X.env.scope.names.lookup (nmOf m.N i) = some .local) ∧ RX.lp.cs.contains i = false := by
  unfold isA at h
  rw [Bool.and_eq_true, Bool.and_eq_true, Bool.or_eq_true, Bool.and_eq_true] at h
  obtain ⟨⟨h1, h2⟩, h5⟩ := h
  refine ⟨by rw [st.nN]; exact nm_at (Nat.blt_eq.mp h1), ?_, ?_, by rw [st.cs]; exact (Bool.not_eq_true' _).mp h5⟩
  · unfold L2.Loc
    rw [st.sc]
    rcases h2 with h2 | ⟨h2, _⟩
    · exact .inl (eq_of_beq h2)
    · exact .inr (eq_of_beq h2)
  · rw [st.sc]
    rcases h2 with h2 | ⟨_, h2⟩
    · exact .inr (eq_of_beq h2)
    · exact .inl (st.fs _ h2)
theorem Site.b (st : Site RX C call m X W) {x : Str} (h : x ∈ bnames) : X.mg x = none := st.bt x h

/-! ### one after another -/
variable {K : PySem.W.Frag} {H H0 : Hp} {μ μ0 : List Addr} {S : Store} {ρ : Env} {σ : L2.St} {β : Type} {p : β → Store → Hp → List Addr → Prop}
theorem Out.eqn {α : Type} {E : XK} {r : Res α} {p : α → Store → Hp → List Addr → Prop} (h : Out RX K E H μ r p) : Out RX K E H μ r fun a S' H' μ' => r = .ok a S' ∧ p a S' H' μ' := by
  cases r with
  | ok a S' => exact fun H' μ' s t => ⟨rfl, h H' μ' s t⟩
  | err x S' => exact h
  | bad => exact h
theorem seqE {f : Env → Store → Res R} {g : R → Store → Res β} {Q : VK} (st : Step H0 μ0 H μ) (t : SR K H μ S) (r : RE RX.lp K H μ ρ σ) (h : Out RX K (fun c d H' => W c d σ H') H0 μ0 ((f ρ S).bind g) p)
    (k : ∀ a S1 H1 μ1 v, Step H0 μ0 H1 μ1 → Step H μ H1 μ1 → SR K H1 μ1 S1 → RE RX.lp K H1 μ1 ρ σ → RR K H H1 μ1 a v → Out RX K (fun c d H' => W c d σ H') H0 μ0 (g a S1) p → Q v H1) : tE RX K W f σ H Q :=
  ⟨ρ, μ, S, t, r, (Out.bind st h).imp fun a S1 H1 μ1 s1 t1 ⟨st1, _, _, h1⟩ v hv => k a S1 H1 μ1 v st1 s1 t1 (r.step s1) hv h1⟩
theorem seqA {f : Env → Store → Res (List D)} {g : List D → Store → Res β} {Q : List L2.V → Hp → Prop} (st : Step H0 μ0 H μ) (t : SR K H μ S) (r : RE RX.lp K H μ ρ σ) (h : Out RX K (fun c d H' => W c d σ H') H0 μ0 ((f ρ S).bind g) p)
    (k : ∀ a S1 H1 μ1 v, Step H0 μ0 H1 μ1 → Step H μ H1 μ1 → SR K H1 μ1 S1 → RE RX.lp K H1 μ1 ρ σ → RDs K H1 μ1 a v → f ρ S = .ok a S1 → Out RX K (fun c d H' => W c d σ H') H0 μ0 (g a S1) p → Q v H1) : tA RX K W f σ H Q := by
  refine ⟨ρ, μ, S, t, r, ?_⟩
  have h2 := (Out.bind st h).eqn
  exact h2.imp fun a S1 H1 μ1 s1 t1 ⟨e, st1, _, _, h1⟩ v hv => k a S1 H1 μ1 v st1 s1 t1 (r.step s1) hv e h1
theorem seqT {f : Env → Store → Res Bool} {g : Bool → Store → Res β} {Q : Bool → Hp → Prop} (st : Step H0 μ0 H μ) (t : SR K H μ S) (r : RE RX.lp K H μ ρ σ) (h : Out RX K (fun c d H' => W c d σ H') H0 μ0 ((f ρ S).bind g) p)
    (k : ∀ a S1 H1 μ1, Step H0 μ0 H1 μ1 → Step H μ H1 μ1 → SR K H1 μ1 S1 → RE RX.lp K H1 μ1 ρ σ → Out RX K (fun c d H' => W c d σ H') H0 μ0 (g a S1) p → Q a H1) : tT RX K W f σ H Q :=
  ⟨ρ, μ, S, t, r, (Out.bind st h).imp fun a S1 H1 μ1 s1 t1 ⟨st1, _, _, h1⟩ => k a S1 H1 μ1 st1 s1 t1 (r.step s1) h1⟩
/-- the same answer -/
theorem sameE {f : Env → Store → Res R} {Q : VK} (st : Step H0 μ0 H μ) (t : SR K H μ S) (r : RE RX.lp K H μ ρ σ) (h : Out RX K (fun c d H' => W c d σ H') H0 μ0 (f ρ S) fun a S' H' μ' => ∀ v, RR K H0 H' μ' a v → Q v H') : tE RX K W f σ H Q :=
  ⟨ρ, μ, S, t, r, (Out.at st h).imp fun a S1 H1 μ1 s1 t1 h1 v hv => h1 v (hv.base st.live)⟩
theorem constE {d : D} {v : L2.V} {Q : VK} (hd : ∀ H μ, RD K H μ d v) (h : tE RX K W (fun _ S => .ok (.v d) S) σ H Q) : Q v H := by
  obtain ⟨ρ, μ, S, t, r, h⟩ := h
  exact h H μ .refl t v (hd H μ)
theorem evEs_len : ∀ (es : Es) (ρ : Env) (S : Store) (ds : List D) (S' : Store), evEs C call es ρ S = .ok ds S' → ds.length = es.len
  | .nil, ρ, S, ds, S', e => by
    rw [evEs] at e
    cases e
    rfl
  | .cons e' r, ρ, S, ds, S', e => by
    rw [evEs] at e
    cases h1 : evE C call e' ρ S with
    | ok a S1 =>
      rw [h1] at e
      have key : ∀ d S2, ((evEs C call r ρ S2).bind fun ds S => Res.ok (d :: ds) S) = .ok ds S' → ds.length = (Es.cons e' r).len := fun d S2 e => by
        cases h2 : evEs C call r ρ S2 with
        | ok b S3 =>
          rw [h2] at e
          cases e
          have := evEs_len r ρ S2 b _ h2
          rw [List.length_cons, this]
          rfl
        | err x S3 => rw [h2] at e; cases e
        | bad => rw [h2] at e; cases e
      cases a with
      | v d => exact key _ _ e
      | t ds' => exact key _ _ e
    | err x S1 => rw [h1] at e; cases e
    | bad => rw [h1] at e; cases e
end
end Q
end
section
-- Snd8
set_option Elab.async false
set_option linter.all false
set_option maxRecDepth 100000
set_option maxHeartbeats 4000000
namespace Q
open PySem PySem.Spec PyProof.Rows L2

/-! ### what is walked -/
structure Wk (K : PySem.W.Frag) (J : L2.It) (ds : List D) (G : Option Addr → Hp → List Addr → Prop) : Prop where
  goes : ∀ D i H μ, i < ds.length → G D H μ → J.go i H
  stops : ∀ D H μ, G D H μ → J.stop ds.length H
  yields : ∀ D (i : Nat) H μ x H' d, ds[i]? = some d → G D H μ → J.yld i H x H' → (∀ a o, H a = some o → H' a = some o) ∧ RD K H' μ d x
  stab : ∀ D H μ H' μ', G D H μ → StepD D H μ H' μ' → G D H' μ'
def ItR (K : PySem.W.Frag) (H : Hp) (μ : List Addr) : Iter → L2.It → Prop
  | .its ds, J => ds.length ≤ sizeLine ∧ ∃ G, Wk K J ds G ∧ ∀ D, (∀ d, D = some d → H d = none) → G D H μ
  | .live n, J => ∃ a, μ[n]? = some a ∧ J = Itl K a
section
variable {K : PySem.W.Frag} {H H0 : Hp} {μ μ0 : List Addr} {S : Store}
theorem line_of (P : Program) (w : World) {h : Heap} {a : Addr} {xs : List L2.V} (t : HOk P w H h) (hs : Rd H a (.tup xs)) : xs.length ≤ sizeLine := by
  have q := Rd.ok hs t
  exact q.1
theorem wk_tup {a : Addr} {vs : List L2.V} {ds : List D} : Wk K (Itt K a) ds fun _ H μ => SqT K H a vs ∧ RDs K H μ ds vs :=
  ⟨fun _ i H μ hi ⟨h1, h2⟩ => by
      have hl := h2.length
      exact ⟨vs, vs[i]'(by omega), h1, by simp [show i < vs.length by omega]⟩,
    fun _ H μ ⟨h1, h2⟩ => ⟨vs, h1, by rw [h2.length]; exact Nat.le_refl _⟩,
    fun _ i H μ x H' d hd ⟨h1, h2⟩ ⟨e, hy⟩ => by
      subst e
      obtain ⟨v, e1, e2⟩ := h2.get hd
      have e3 := hy vs h1
      rw [e1] at e3
      cases e3
      exact ⟨fun _ _ z => z, e2⟩,
    fun _ H μ H' μ' ⟨h1, h2⟩ s => ⟨SqT.mono' s.tups h1, h2.step s⟩⟩
theorem wk_lst {a : Addr} {vs : List L2.V} {ds : List D} : Wk K (Itl K a) ds fun D H μ => H a = some (.lst vs) ∧ a ∉ μ ∧ some a ≠ D ∧ RDs K H μ ds vs :=
  ⟨fun _ i H μ hi ⟨h1, _, _, h2⟩ => by
      have hl := h2.length
      exact ⟨vs, vs[i]'(by omega), SqL.of h1, by simp [show i < vs.length by omega]⟩,
    fun _ H μ ⟨h1, _, _, h2⟩ => ⟨vs, SqL.of h1, by rw [h2.length]; exact Nat.le_refl _⟩,
    fun _ i H μ x H' d hd ⟨h1, _, _, h2⟩ ⟨e, hy⟩ => by
      subst e
      obtain ⟨v, e1, e2⟩ := h2.get hd
      have e3 := hy vs (SqL.of h1)
      rw [e1] at e3
      cases e3
      exact ⟨fun _ _ z => z, e2⟩,
    fun _ H μ H' μ' ⟨h1, h0, hd, h2⟩ s => ⟨s.keepD _ _ h1 h0 hd, s.notin h1 h0, hd, h2.step s⟩⟩
theorem wk_fz {a : Addr} {vs : List L2.V} {ds : List D} : Wk K (Itl K a) ds fun _ H μ => Imm H a (.lst vs) ∧ RDs K H μ ds vs :=
  ⟨fun _ i H μ hi ⟨h1, h2⟩ => by
      have hl := h2.length
      exact ⟨vs, vs[i]'(by omega), .inl (imm_rd h1), by simp [show i < vs.length by omega]⟩,
    fun _ H μ ⟨h1, h2⟩ => ⟨vs, .inl (imm_rd h1), by rw [h2.length]; exact Nat.le_refl _⟩,
    fun _ i H μ x H' d hd ⟨h1, h2⟩ ⟨e, hy⟩ => by
      subst e
      obtain ⟨v, e1, e2⟩ := h2.get hd
      have e3 := hy vs (.inl (imm_rd h1))
      rw [e1] at e3
      cases e3
      exact ⟨fun _ _ z => z, e2⟩,
    fun _ H μ H' μ' ⟨h1, h2⟩ s => ⟨s.tups _ _ h1, h2.step s⟩⟩
theorem range_len (i j : Int) : (range i j).length = (j - i).toNat := by
  unfold range
  rw [List.length_map, List.length_range]
theorem range_at (i j : Int) (k : Nat) (d : D) (h : (range i j)[k]? = some d) : d = .int (i + k) := by
  unfold range at h
  rw [List.getElem?_map] at h
  by_cases hk : k < (j - i).toNat
  · rw [List.getElem?_range hk] at h
    exact (Option.some.inj h).symm
  · rw [List.getElem?_eq_none (by simpa using hk)] at h
    cases h
theorem wk_range {i j : Int} : Wk K (Itr i (j - i).toNat) (range i j) fun _ _ _ => True :=
  ⟨fun _ k H μ hk _ => by rw [range_len] at hk; exact hk, fun _ H μ _ => by rw [range_len]; exact Nat.le_refl _,
    fun _ k H μ x H' d hd _ ⟨e, ex⟩ => by
      subst e
      subst ex
      rw [range_at i j k d hd]
      exact ⟨fun _ _ z => z, .int _⟩,
    fun _ _ _ _ _ _ _ => trivial⟩
theorem wk_zip {a b : Addr} {xs ys : List L2.V} {ds es : List D} : Wk K (RZ.ItzT K a b) ((ds.zip es).map fun p => .tup [p.1, p.2]) fun _ H μ => (SqT K H a xs ∧ SqT K H b ys) ∧ RDs K H μ ds xs ∧ RDs K H μ es ys :=
  ⟨fun _ i H μ hi ⟨h, q1, q2⟩ => by
      rw [List.length_map, List.length_zip, q1.length, q2.length] at hi
      exact (walk_zipT rfl).goes i H hi h,
    fun _ H μ ⟨h, q1, q2⟩ => by
      rw [List.length_map, List.length_zip, q1.length, q2.length]
      exact (walk_zipT rfl).stops H h,
    fun _ i H μ x H' d hd ⟨h, q1, q2⟩ hy => by
      have hi : i < min xs.length ys.length := by
        have := (List.getElem?_eq_some_iff.mp hd).1
        rw [List.length_map, List.length_zip, q1.length, q2.length] at this
        exact this
      obtain ⟨T, y, z, e1, hn, e2, ex, ey⟩ := (walk_zipT (K := K) (a := a) (b := b) (xs := xs) (ys := ys) rfl).yields i H x H' hi h hy
      subst e1
      subst e2
      have h1' : i < ds.length := by rw [q1.length]; omega
      have h2' : i < es.length := by rw [q2.length]; omega
      have e3 : (ds.zip es)[i]? = some (ds[i], es[i]) := by
        rw [List.getElem?_zip_eq_some]
        exact ⟨List.getElem?_eq_getElem h1', List.getElem?_eq_getElem h2'⟩
      rw [List.getElem?_map, e3] at hd
      cases hd
      obtain ⟨v1, f1, g1⟩ := q1.get (List.getElem?_eq_getElem h1')
      obtain ⟨v2, f2, g2⟩ := q2.get (List.getElem?_eq_getElem h2')
      have ex : xs[i]? = some y := ex
      have ey : ys[i]? = some z := ey
      rw [ex] at f1
      rw [ey] at f2
      cases f1
      cases f2
      exact ⟨grow_upd hn, new_tup (.cons g1 (.cons g2 .nil)) hn⟩,
    fun _ H μ H' μ' ⟨⟨h1, h2⟩, q1, q2⟩ s => ⟨⟨SqT.mono' s.tups h1, SqT.mono' s.tups h2⟩, q1.step s, q2.step s⟩⟩
theorem wk_enum {a : Addr} {xs : List L2.V} {ds : List D} : Wk K (IteT K a) (ds.zipIdx.map fun p => .tup [.int p.2, p.1]) fun _ H μ => SqT K H a xs ∧ RDs K H μ ds xs :=
  ⟨fun _ i H μ hi ⟨h, q1⟩ => by
      rw [List.length_map, List.length_zipIdx, q1.length] at hi
      exact walk_enumT.goes i H hi h,
    fun _ H μ ⟨h, q1⟩ => by
      rw [List.length_map, List.length_zipIdx, q1.length]
      exact walk_enumT.stops H h,
    fun _ i H μ x H' d hd ⟨h, q1⟩ hy => by
      have hi : i < xs.length := by
        have := (List.getElem?_eq_some_iff.mp hd).1
        rw [List.length_map, List.length_zipIdx, q1.length] at this
        exact this
      obtain ⟨T, y, z, e1, hn, e2, ex, ey⟩ := (walk_enumT (K := K) (a := a) (xs := xs)).yields i H x H' hi h hy
      subst e1
      subst e2
      cases ex
      have hd' : i < ds.length := by rw [q1.length]; exact hi
      have e3 : ds.zipIdx[i]? = some (ds[i], i) := by
        rw [List.getElem?_zipIdx, List.getElem?_eq_getElem hd']
        simp
      rw [List.getElem?_map, e3] at hd
      cases hd
      obtain ⟨v1, f1, g1⟩ := q1.get (List.getElem?_eq_getElem hd')
      have ey : xs[i]? = some z := ey
      rw [ey] at f1
      cases f1
      exact ⟨grow_upd hn, new_tup (.cons (.int _) (.cons g1 .nil)) hn⟩,
    fun _ H μ H' μ' ⟨h1, q1⟩ s => ⟨SqT.mono' s.tups h1, q1.step s⟩⟩
end
/-- the lengths that the heap has -/
structure Lens (K : PySem.W.Frag) (H : Hp) : Prop where
  tup : ∀ a xs, SqT K H a xs → xs.length ≤ sizeLine
  lst : ∀ a xs, H a = some (.lst xs) → xs.length ≤ sizeLine
  fz : ∀ a xs, Imm H a (.lst xs) → xs.length ≤ sizeLine
theorem _root_.L2.PI.lens {X : Cx} {tg iter : Expr} {wi : TI} (h : PI X tg iter wi) : PI X tg iter fun σ H R => wi σ H fun J H1 => Lens X.K H1 → R J H1 := by
  refine ⟨fun pins s σ H R I hw => ?_⟩
  refine thn (h.run pins s σ H _ I hw) fun v s1 h1 => thn h1 fun itv s2 ⟨it, fp, tn, J, H', e, I2, T, t2, f2, r⟩ => ⟨it, fp, tn, J, H', e, I2, T, t2, f2, r ⟨fun a xs q => ?_, fun a xs q => ?_, fun a xs q => ?_⟩⟩
  · obtain ⟨_, _, _, hz⟩ := I2.tuple q
    exact hz
  · exact (show ObjOk X.prog X.w H' s2.heap a (.lst xs) from I2.hok a _ q).1
  · exact ((imm_rd q).ok I2.hok).1
theorem _root_.L2.PI.imp {X : Cx} {tg iter : Expr} {wi wi' : TI} (h : PI X tg iter wi) (f : ∀ σ H R, wi' σ H R → wi σ H R) : PI X tg iter wi' := ⟨fun pins s σ H R I z => h.run pins s σ H R I (f σ H R z)⟩
def iI (RX : RXT) (K : PySem.W.Frag) (W : WX) (f : Env → Store → Res Iter) : TI := fun σ H R => ∃ ρ μ S, SR K H μ S ∧ RE RX.lp K H μ ρ σ ∧ Out RX K (fun c d H' => W c d σ H') H μ (f ρ S) fun I S' H' μ' => Lens K H' → ∀ J, ItR K H' μ' I J → R J H'

/-! ### a loop, a comprehension -/
section
variable {RX : RXT} {K : PySem.W.Frag} {E : XK} {H H0 : Hp} {μ μ0 : List Addr} {S : Store} {ρ : Env} {σ : L2.St}
/-- a comprehension's reading -/
theorem lc_snd {W : WX} {step : D → Store → Res (Option D)} {I : Iter} {J : L2.It} {g : TG} {tt : TT} {te : TE} {vs : List Nat} {D : Addr} {Qd : Hp → Prop} {p : List Q.D → Store → Hp → List Addr → Prop}
    (st : Step H0 μ0 H μ) (t : SR K H μ S) (r : RE RX.lp K H μ ρ σ) (ln : Lens K H) (hJ : ItR K H μ I J) (hD : H D = none)
    (h : Out RX K E H0 μ0 (over step I S) p)
    (turn : ∀ (d : Q.D) x H μ S acc avs (q : Option Q.D → Store → Res (List Q.D)), Step H0 μ0 H μ → SR K H μ S → RE RX.lp K H μ ρ σ → RD K H μ d x → H D = some (.lst avs) → D ∉ μ → RDs K H μ acc avs → acc.length < sizeLine → Out RX K E H0 μ0 ((step d S).bind q) p →
      ∀ N : Hp → Prop,
      (∀ d' H' μ' S' avs', Step H0 μ0 H' μ' → StepD (some D) H μ H' μ' → SR K H' μ' S' → RE RX.lp K H' μ' ρ σ → H' D = some (.lst avs') → D ∉ μ' → (match d' with | some e => RDs K H' μ' (acc ++ [e]) avs' | none => RDs K H' μ' acc avs') → Out RX K E H0 μ0 (q d' S') p → N H') →
      g x (L2.wipe σ vs) H fun σ2 H2 => L2.wipe σ2 vs = L2.wipe σ vs ∧ tt σ2 H2 fun b H3 => if b = true then te σ2 H3 fun y H4 => ∃ acc, H4 D = some (.lst acc) ∧ acc.length < sizeLine ∧ N (upd H4 D (.lst (acc ++ [y]))) else N H3)
    (done : ∀ ds S' H' μ' avs, Step H0 μ0 H' μ' → SR K H' μ' S' → H' D = some (.lst avs) → D ∉ μ' → RDs K H' μ' ds avs → p ds S' H' μ' → Qd H') :
    ∃ W : Nat → Nat → Hp → Prop, (∃ m, W 0 m (upd H D (.lst []))) ∧ ∀ i m H, W i m H →
      (J.stop i H ∧ Qd H) ∨ (J.go i H ∧ ∃ Nx : Hp → Prop, (∀ H', Nx H' → ∃ m', m' < m ∧ W (i + 1) m' H') ∧ ∀ x H', J.yld i H x H' → g x (L2.wipe σ vs) H' fun σ2 H2 => L2.wipe σ2 vs = L2.wipe σ vs ∧ tt σ2 H2 fun b H3 =>
        if b = true then te σ2 H3 fun y H4 => ∃ acc, H4 D = some (.lst acc) ∧ acc.length < sizeLine ∧ Nx (upd H4 D (.lst (acc ++ [y]))) else Nx H3) := by
  have sD : Step H μ (upd H D (.lst [])) μ := StepD.grow (grow_upd hD)
  have nD : D ∉ μ := not_in t hD
  cases I with
  | its ds =>
    obtain ⟨hz, G, w, hG⟩ := hJ
    have h : Out RX K E H0 μ0 (overL step ds [] S) p := h
    refine ⟨fun i m H => m = ds.length - i ∧ i ≤ ds.length ∧ ∃ μ S acc avs, Step H0 μ0 H μ ∧ SR K H μ S ∧ RE RX.lp K H μ ρ σ ∧ G (some D) H μ ∧ H D = some (.lst avs) ∧ D ∉ μ ∧ RDs K H μ acc avs ∧ acc.length ≤ i ∧ Out RX K E H0 μ0 (overL step (ds.drop i) acc S) p,
      ⟨ds.length, by simp, Nat.zero_le _, μ, S, [], [], st.new hD, t.new hD, r.step sD, w.stab _ _ _ _ _ (hG (some D) fun d e => by cases e; exact hD) (StepD.grow (grow_upd hD)), upd_same, nD, .nil, Nat.zero_le _, by rw [List.drop_zero]; exact h⟩, ?_⟩
    rintro i m H1 ⟨rfl, hi, μ1, S1, acc, avs, st1, t1, r1, g1, d1, n1, a1, l1, h1⟩
    by_cases hlt : i < ds.length
    · have hd : ds[i]? = some ds[i] := List.getElem?_eq_getElem hlt
      rw [List.drop_eq_getElem_cons hlt] at h1
      refine .inr ⟨w.goes _ i H1 μ1 hlt g1, _, fun H' hN => ⟨ds.length - (i + 1), by omega, rfl, hlt, hN⟩, fun x H' hy => ?_⟩
      obtain ⟨k, rd⟩ := w.yields _ i H1 μ1 x H' _ hd g1 hy
      have s' : Step H1 μ1 H' μ1 := StepD.grow k
      refine turn ds[i] x H' μ1 S1 acc avs _ (st1.trans s') (t1.grow k) (r1.step s') rd (k _ _ d1) n1 (a1.step s') (by omega) h1 _ fun d' H2 μ2 S2 avs2 st2 s2 t2 r2 d2 n2 a2 h2 => ?_
      cases d' with
      | some e => exact ⟨μ2, S2, _, avs2, st2, t2, r2, w.stab _ _ _ _ _ (w.stab _ _ _ _ _ g1 s'.weak) s2, d2, n2, a2, by rw [List.length_append, List.length_singleton]; omega, h2⟩
      | none => exact ⟨μ2, S2, _, avs2, st2, t2, r2, w.stab _ _ _ _ _ (w.stab _ _ _ _ _ g1 s'.weak) s2, d2, n2, a2, by omega, h2⟩
    · have e : i = ds.length := by omega
      subst e
      rw [List.drop_length] at h1
      exact .inl ⟨w.stops _ H1 μ1 g1, done acc S1 H1 μ1 avs st1 t1 d1 n1 a1 (h1 H1 μ1 st1 t1)⟩
  | live n =>
    obtain ⟨a, ha, rfl⟩ := hJ
    unfold over at h
    dsimp only at h
    split at h
    · rename_i ds hs
      have hz : ds.length ≤ sizeLine := by
        obtain ⟨o, o1, vs1, e1, q1⟩ := t.cell n _ _ hs ha
        subst e1
        rw [q1.length]
        exact ln.lst _ _ o1
      refine ⟨fun i m H => i + m = ds.length ∧ ∃ μ S acc avs, Step H0 μ0 H μ ∧ SR K H μ S ∧ RE RX.lp K H μ ρ σ ∧ μ[n]? = some a ∧ H D = some (.lst avs) ∧ D ∉ μ ∧ RDs K H μ acc avs ∧ acc.length ≤ i ∧ Out RX K E H0 μ0 (overV step n m i acc S) p,
        ⟨ds.length, by omega, μ, S, [], [], st.new hD, t.new hD, r.step sD, ha, upd_same, nD, .nil, Nat.zero_le _, h⟩, ?_⟩
      rintro i m H1 ⟨hi, μ1, S1, acc, avs, st1, t1, r1, g1, d1, n1, a1, l1, h1⟩
      have key : ∀ ds1, S1[n]? = some (.lst ds1) → ∃ vs1, H1 a = some (.lst vs1) ∧ RDs K H1 μ1 ds1 vs1 := fun ds1 e => by
        obtain ⟨o, o1, vs1, e1, q1⟩ := t1.cell n _ _ e g1
        subst e1
        exact ⟨vs1, o1, q1⟩
      have stop : ∀ (ds1 : List Q.D), S1[n]? = some (.lst ds1) → ds1[i]? = none → (Itl K a).stop i H1 := fun ds1 e e2 => by
        obtain ⟨vs1, o1, q1⟩ := key ds1 e
        refine ⟨vs1, SqL.of o1, ?_⟩
        rw [← q1.length]
        exact List.getElem?_eq_none_iff.mp e2
      cases m with
      | zero =>
        unfold overV at h1
        split at h1
        · rename_i ds1 e1
          split at h1
          · rename_i e2
            exact .inl ⟨stop ds1 e1 e2, done acc S1 H1 μ1 avs st1 t1 d1 n1 a1 (h1 H1 μ1 st1 t1)⟩
          · exact h1.elim
        · exact h1.elim
      | succ m =>
        unfold overV at h1
        split at h1
        · rename_i ds1 e1
          split at h1
          · rename_i e2
            exact .inl ⟨stop ds1 e1 e2, done acc S1 H1 μ1 avs st1 t1 d1 n1 a1 (h1 H1 μ1 st1 t1)⟩
          · rename_i d e2
            obtain ⟨vs1, o1, q1⟩ := key ds1 e1
            obtain ⟨v, f1, f2⟩ := q1.get e2
            refine .inr ⟨⟨vs1, v, SqL.of o1, f1⟩, _, fun H' hN => ⟨m, Nat.lt_succ_self _, by omega, hN⟩, fun x H' hy => ?_⟩
            obtain ⟨eH, hy⟩ := hy
            subst eH
            have ex := hy vs1 (SqL.of o1)
            rw [f1] at ex
            cases ex
            refine turn d v H' μ1 S1 acc avs _ st1 t1 r1 f2 d1 n1 a1 (by omega) h1 _ fun d' H2 μ2 S2 avs2 st2 s2 t2 r2 d2 n2 a2 h2 => ?_
            cases d' with
            | some e => exact ⟨μ2, S2, _, avs2, st2, t2, r2, s2.ix g1, d2, n2, a2, by rw [List.length_append, List.length_singleton]; omega, h2⟩
            | none => exact ⟨μ2, S2, _, avs2, st2, t2, r2, s2.ix g1, d2, n2, a2, by omega, h2⟩
        · exact h1.elim
    · exact h.elim
end
end Q
end
section
-- Snd9
set_option Elab.async false
set_option linter.all false
set_option maxRecDepth 100000
set_option maxHeartbeats 4000000
namespace Q
open PySem PySem.Spec PyProof.Rows L2

section
variable {RX : RXT} {C : Ctx} {call : Nat → List D → Store → Res R} {m : Nm} {X : Cx} {W : WX}
def Snd (RX : RXT) (X : Cx) (W : WX) (e : Expr) (f : Env → Store → Res R) : Prop := PE X e (tE RX X.K W f) ∧ PT X e (tT RX X.K W fun ρ S => tru (f ρ S))
theorem opt_bind {α β γ : Type} (o : Option α) (f : α → Res β) (g : β → Store → Res γ) : (Q.opt o f).bind g = Q.opt o fun a => (f a).bind g := by
  cases o <;> rfl
/-- a test by its value -/
theorem both {e : Expr} {f : Env → Store → Res R} (h : PE X e (tE RX X.K W f)) (he : ∀ whole, isTrue e X.env whole = (do let v ← whole; standAt e.pos; holding [v] (truthy v))) : Snd RX X W e f := by
  refine ⟨h, (pt_truth h he).imp fun σ H Q hq => ?_⟩
  obtain ⟨ρ, μ, S, t, r, h⟩ := hq
  exact seqE .refl t r h fun a S1 H1 μ1 v st1 s1 t1 r1 hv h1 => by
    obtain ⟨k, ek, h2⟩ := h1.opt
    exact ⟨k, tru_of t1 hv ek, h2 H1 μ1 st1 t1⟩
theorem sConst {e : Expr} {d : D} {v : L2.V} (h : PE X e (tC v)) (hd : ∀ H μ, RD X.K H μ d v) (he : ∀ whole, isTrue e X.env whole = (do let v ← whole; standAt e.pos; holding [v] (truthy v))) : Snd RX X W e (fun _ S => .ok (.v d) S) :=
  both (h.imp fun σ H Q hq => constE hd hq) he

theorem sVar (st : Site RX C call m X W) {i : Nat} {p : Pos} (h : isV m i = true) : Snd RX X W (.Name (nmOf m.N i) p) (evE C call (.var i)) := by
  obtain ⟨h1, h2, h3, h4, h5⟩ := st.v h
  refine both ((pe_var (i := i) h1 h2 h3 h4).imp fun σ H Q hq => ?_) (by intro _; rfl)
  obtain ⟨ρ, μ, S, t, r, h⟩ := hq
  rw [evE] at h
  split at h
  · rename_i d hd
    obtain ⟨v, e1, e2⟩ := r.at_ i d h5 hd
    exact ⟨v, e1, h H μ .refl t v e2⟩
  · exact h.elim
theorem sGlb (st : Site RX C call m X W) {j : Nat} {p : Pos} (h : kE m (.glb j) = true) : Snd RX X W (.Name (nmOf m.gl j) p) (evE C call (.glb j)) := by
  rw [kE, Bool.and_eq_true] at h
  obtain ⟨hg, hd, hn⟩ := st.g h.2
  cases hd' : C.glb[j]? with
  | none =>
    refine both ⟨fun pins s σ H Q I hq => ?_⟩ (by intro _; rfl)
    obtain ⟨ρ, μ, S, t, r, h⟩ := hq
    rw [evE, hd'] at h
    exact h.elim
  | some d =>
    obtain ⟨v, u, e1, e2, e3⟩ := st.gl j d hd'
    refine both ((pe_glob hg e1 e2 hd).imp fun σ H Q hq => ?_) (by intro _; rfl)
    obtain ⟨ρ, μ, S, t, r, h⟩ := hq
    rw [evE, hd'] at h
    exact h H μ .refl t v (e3 H μ)
theorem sTup {es : Es} {l : List Expr} {k : Nat} {p : Pos} (ha : PA X l (tA RX X.K W (evEs C call es))) (hz : es.len ≤ 5000) : Snd RX X W (.Tuple l k p) (evE C call (.tup es)) := by
  refine both ((pe_tup ha).imp fun σ H Q hq => ?_) (by intro _; rfl)
  obtain ⟨ρ, μ, S, t, r, h⟩ := hq
  rw [evE] at h
  refine seqA .refl t r h fun ds S1 H1 μ1 vs st1 s1 t1 r1 hv e h1 => ⟨?_, fun q hq => h1 _ μ1 (st1.new hq) (t1.new hq) _ (new_tup hv hq)⟩
  rw [← hv.length, evEs_len es ρ S ds S1 e, sizeLine_eq]
  omega
theorem sLst {es : Es} {l : List Expr} {p : Pos} (ha : PA X l (tA RX X.K W (evEs C call es))) (hz : es.len ≤ 5000) : Snd RX X W (.List l p) (evE C call (.lst es)) := by
  refine both ((pe_lst ha).imp fun σ H Q hq => ?_) (by intro _; rfl)
  obtain ⟨ρ, μ, S, t, r, h⟩ := hq
  rw [evE] at h
  refine seqA .refl t r h fun ds S1 H1 μ1 vs st1 s1 t1 r1 hv e h1 => ⟨?_, fun q hq => h1 _ μ1 (st1.new hq) (t1.new hq) _ (new_lst st1 t1 hv hq)⟩
  rw [← hv.length, evEs_len es ρ S ds S1 e, sizeLine_eq]
  omega
theorem sBin {o : Operator} {a b : E} {ea eb : Expr} {p : Pos} (ha : Snd RX X W ea (evE C call a)) (hb : Snd RX X W eb (evE C call b)) : Snd RX X W (.BinOp ea o eb p) (evE C call (.bin o a b)) := by
  refine both ((pe_op (op_bin (RX := RX) o) ha.1 hb.1).imp fun σ H Q hq => ?_) (by intro _; rfl)
  obtain ⟨ρ, μ, S, t, r, h⟩ := hq
  rw [evE] at h
  refine seqE .refl t r h fun x S1 H1 μ1 v st1 s1 t1 r1 hx h1 => seqE st1 t1 r1 h1 fun y S2 H2 μ2 u st2 s2 t2 r2 hy h2 => ?_
  exact ⟨_, H, μ, μ2, S2, x, y, st2, t2, hx.step s2, hy.base st1.live, h2⟩
theorem sNeg {a : E} {ea : Expr} {p : Pos} (ha : Snd RX X W ea (evE C call a)) : Snd RX X W (.UnaryOp .USub ea p) (evE C call (.neg a)) := by
  refine both ((pe_un un_neg ha.1).imp fun σ H Q hq => ?_) (by intro _; rfl)
  obtain ⟨ρ, μ, S, t, r, h⟩ := hq
  rw [evE] at h
  refine seqE .refl t r h fun x S1 H1 μ1 v st1 s1 t1 r1 hx h1 => ?_
  split at h1
  · have e := rd_int hx
    subst e
    exact ⟨_, rfl, h1 H1 μ1 st1 t1 _ (.int _)⟩
  · exact h1.elim
theorem sNot {a : E} {ea : Expr} {p : Pos} (ha : Snd RX X W ea (evE C call a)) : Snd RX X W (.UnaryOp .Not ea p) (evE C call (.not a)) := by
  refine ⟨(pe_notT ha.1).imp fun σ H Q hq => ?_, (pt_not ha.2).imp fun σ H Q hq => ?_⟩
  · obtain ⟨ρ, μ, S, t, r, h⟩ := hq
    rw [evE] at h
    refine seqE .refl t r h fun x S1 H1 μ1 v st1 s1 t1 r1 hx h1 => ?_
    obtain ⟨k, ek, h2⟩ := h1.opt
    exact ⟨k, tru_of t1 hx ek, h2 H1 μ1 st1 t1 _ (.bl _)⟩
  · obtain ⟨ρ, μ, S, t, r, h⟩ := hq
    have e : tru (evE C call (.not a) ρ S) = (tru (evE C call a ρ S)).bind fun k S => .ok (!k) S := by
      rw [evE]
      unfold tru
      rw [Res.assoc, Res.assoc]
      congr 1
      funext x S1
      rw [opt_bind, opt_bind]
      rfl
    dsimp only at h
    rw [e] at h
    exact seqT .refl t r h fun k S1 H1 μ1 st1 s1 t1 r1 h1 => h1 H1 μ1 st1 t1
theorem sCmp (hu : X.A.units + 100 < cLine) {o : CmpOp} {a b : E} {ea eb : Expr} {p : Pos} (ha : Snd RX X W ea (evE C call a)) (hb : Snd RX X W eb (evE C call b)) (hm : behindInMarks o eb = false) : Snd RX X W (.Compare ea [o] [eb] p) (evE C call (.cmp o a b)) := by
  refine ⟨(pe_cmpR (op_cmp (by omega) o) ha.1 hb.1 hm).imp fun σ H Q hq => ?_, (pt_cmpR (op_cmp (by omega) o) ha.1 hb.1 hm).imp fun σ H Q hq => ?_⟩
  · obtain ⟨ρ, μ, S, t, r, h⟩ := hq
    rw [evE] at h
    refine seqE .refl t r h fun x S1 H1 μ1 v st1 s1 t1 r1 hx h1 => seqE st1 t1 r1 h1 fun y S2 H2 μ2 u st2 s2 t2 r2 hy h2 => ?_
    obtain ⟨c, ec, h3⟩ := h2.opt
    exact ⟨H, μ2, S2, x, y, c, t2, hx.step s2, hy.base st1.live, ec, h3 H2 μ2 st2 t2 _ (.bl _)⟩
  · obtain ⟨ρ, μ, S, t, r, h⟩ := hq
    have e : tru (evE C call (.cmp o a b) ρ S) = (evE C call a ρ S).bind fun x S => (evE C call b ρ S).bind fun y S => _root_.Q.opt (evCmp o S x y) fun c => .ok c S := by
      rw [evE]
      unfold tru
      rw [Res.assoc]
      congr 1
      funext x S1
      rw [Res.assoc]
      congr 1
      funext y S2
      rw [opt_bind]
      rfl
    dsimp only at h
    rw [e] at h
    refine seqE .refl t r h fun x S1 H1 μ1 v st1 s1 t1 r1 hx h1 => seqE st1 t1 r1 h1 fun y S2 H2 μ2 u st2 s2 t2 r2 hy h2 => ?_
    obtain ⟨c, ec, h3⟩ := h2.opt
    exact ⟨H, μ2, S2, x, y, c, t2, hx.step s2, hy.base st1.live, ec, c, rfl, h3 H2 μ2 st2 t2⟩
theorem sChn (hu : X.A.units + 100 < cLine) {o o' : CmpOp} {a b c : E} {ea eb ec : Expr} {p : Pos} (ha : Snd RX X W ea (evE C call a)) (hb : Snd RX X W eb (evE C call b)) (hc : Snd RX X W ec (evE C call c)) (hm : lastMarks [o, o'] [eb, ec] = false) :
    Snd RX X W (.Compare ea [o, o'] [eb, ec] p) (evE C call (.chn o o' a b c)) := by
  refine ⟨(pe_chain (op_cmp (by omega) o) (op_cmp (by omega) o') ha.1 hb.1 hc.1 hm).imp fun σ H Q hq => ?_, (pt_chain (op_cmp (by omega) o) (op_cmp (by omega) o') ha.1 hb.1 hc.1 hm).imp fun σ H Q hq => ?_⟩
  · obtain ⟨ρ, μ, S, t, r, h⟩ := hq
    rw [evE] at h
    refine seqE .refl t r h fun x S1 H1 μ1 v st1 s1 t1 r1 hx h1 => seqE st1 t1 r1 h1 fun y S2 H2 μ2 u st2 s2 t2 r2 hy h2 => ?_
    obtain ⟨k, ek, h3⟩ := h2.opt
    refine ⟨H, μ2, S2, x, y, k, t2, hx.step s2, hy.base st1.live, ek, k, rfl, ?_⟩
    cases k with
    | false => exact h3 H2 μ2 st2 t2 _ (.bl _)
    | true =>
      refine seqE st2 t2 r2 h3 fun z S3 H3 μ3 w' st3 s3 t3 r3 hz h4 => ?_
      obtain ⟨k, ek, h5⟩ := h4.opt
      exact ⟨H, μ3, S3, y, z, k, t3, (hy.base st1.live).step s3, hz.base st2.live, ek, h5 H3 μ3 st3 t3 _ (.bl _)⟩
  · obtain ⟨ρ, μ, S, t, r, h⟩ := hq
    have e : tru (evE C call (.chn o o' a b c) ρ S) = (evE C call a ρ S).bind fun x S => (evE C call b ρ S).bind fun y S => _root_.Q.opt (evCmp o S x y) fun k =>
        if k then (evE C call c ρ S).bind fun z S => _root_.Q.opt (evCmp o' S y z) fun k => .ok k S else .ok false S := by
      rw [evE]
      unfold tru
      rw [Res.assoc]
      congr 1
      funext x S1
      rw [Res.assoc]
      congr 1
      funext y S2
      rw [opt_bind]
      congr 1
      funext k
      cases k with
      | false => rfl
      | true =>
        show ((evE C call c ρ S2).bind _).bind _ = _
        rw [Res.assoc]
        show _ = (evE C call c ρ S2).bind _
        congr 1
        funext z S3
        rw [opt_bind]
        rfl
    dsimp only at h
    rw [e] at h
    refine seqE .refl t r h fun x S1 H1 μ1 v st1 s1 t1 r1 hx h1 => seqE st1 t1 r1 h1 fun y S2 H2 μ2 u st2 s2 t2 r2 hy h2 => ?_
    obtain ⟨k, ek, h3⟩ := h2.opt
    refine ⟨H, μ2, S2, x, y, k, t2, hx.step s2, hy.base st1.live, ek, k, rfl, ?_⟩
    cases k with
    | false => exact ⟨false, rfl, h3 H2 μ2 st2 t2⟩
    | true =>
      refine seqE st2 t2 r2 h3 fun z S3 H3 μ3 w' st3 s3 t3 r3 hz h4 => ?_
      obtain ⟨k, ek, h5⟩ := h4.opt
      exact ⟨H, μ3, S3, y, z, k, t3, (hy.base st1.live).step s3, hz.base st2.live, ek, k, rfl, h5 H3 μ3 st3 t3⟩
theorem sIfe {c a b : E} {ec ea eb : Expr} {p : Pos} (hc : Snd RX X W ec (evE C call c)) (ha : Snd RX X W ea (evE C call a)) (hb : Snd RX X W eb (evE C call b)) : Snd RX X W (.IfExp ec ea eb p) (evE C call (.ife c a b)) := by
  have eq1 : ∀ ρ S, evE C call (.ife c a b) ρ S = (tru (evE C call c ρ S)).bind fun k S => if k then evE C call a ρ S else evE C call b ρ S := fun ρ S => by
    rw [evE]
    unfold tru
    rw [Res.assoc]
    congr 1
    funext x S1
    rw [opt_bind]
    rfl
  refine ⟨(pe_ifExp hc.2 ha.1 hb.1).imp fun σ H Q hq => ?_, ⟨fun pins s σ H Q I hq => ?_⟩⟩
  · obtain ⟨ρ, μ, S, t, r, h⟩ := hq
    rw [eq1] at h
    refine seqT .refl t r h fun k S1 H1 μ1 st1 s1 t1 r1 h1 => ?_
    cases k with
    | true => exact sameE st1 t1 r1 h1
    | false => exact sameE st1 t1 r1 h1
  · obtain ⟨ρ, μ, S, t, r, h⟩ := hq
    have e : tru (evE C call (.ife c a b) ρ S) = (tru (evE C call c ρ S)).bind fun k S => if k then tru (evE C call a ρ S) else tru (evE C call b ρ S) := by
      rw [eq1]
      rw [tru, Res.assoc]
      congr 1
      funext k S1
      cases k <;> rfl
    dsimp only at h
    rw [e] at h
    have h' : tT RX X.K W (fun ρ S => tru (evE C call c ρ S)) σ H (fun k H1 => if k = true then tT RX X.K W (fun ρ S => tru (evE C call a ρ S)) σ H1 Q else tT RX X.K W (fun ρ S => tru (evE C call b ρ S)) σ H1 Q) :=
      seqT .refl t r h fun k S1 H1 μ1 st1 s1 t1 r1 h1 => by
        cases k with
        | true => exact ⟨ρ, μ1, S1, t1, r1, Out.at st1 h1⟩
        | false => exact ⟨ρ, μ1, S1, t1, r1, Out.at st1 h1⟩
    refine PyProof.Rows.isTrue_IfExp (thn (hc.2.run pins s σ H _ I h') fun k s1 ⟨H1, I1, q1⟩ => ?_)
    cases k with
    | true => exact ha.2.run pins s1 σ H1 Q I1 q1
    | false => exact hb.2.run pins s1 σ H1 Q I1 q1
end
end Q
end
section
-- Snd10
set_option Elab.async false
set_option linter.all false
set_option maxRecDepth 100000
set_option maxHeartbeats 4000000
namespace Q
open PySem PySem.Spec PyProof.Rows L2

section
variable {RX : RXT} {C : Ctx} {call : Nat → List D → Store → Res R} {m : Nm} {X : Cx} {W : WX}
theorem plainIx (i : E) (ps : PL) : PlainIx (pE m i ps).1 := by
  intro o k
  cases i <;> rfl
theorem sIdx {a i : E} {ea : Expr} {ps : PL} {p : Pos} (ha : Snd RX X W ea (evE C call a)) (hi : Snd RX X W (pE m i ps).1 (evE C call i)) : Snd RX X W (.Subscript ea (pE m i ps).1 p) (evE C call (.idx a i)) := by
  refine both ((pe_ix ix_all ha.1 hi.1 (plainIx i ps)).imp fun σ H Q hq => ?_) (by intro _; rfl)
  obtain ⟨ρ, μ, S, t, r, h⟩ := hq
  rw [evE] at h
  refine seqE .refl t r h fun x S1 H1 μ1 v st1 s1 t1 r1 hx h1 => seqE st1 t1 r1 h1 fun y S2 H2 μ2 u st2 s2 t2 r2 hy h2 => ?_
  obtain ⟨d, ed, h3⟩ := h2.opt
  exact ⟨H, μ2, S2, x, y, d, t2, hx.step s2, hy.base st1.live, ed, fun v hv => h3 H2 μ2 st2 t2 v hv⟩
/-- a slice's part -/
def tO (RX : RXT) (K : PySem.W.Frag) (W : WX) (f : Env → Store → Res (Option Int)) : TO := fun σ H Q => ∃ ρ μ S, SR K H μ S ∧ RE RX.lp K H μ ρ σ ∧ Out RX K (fun c d H' => W c d σ H') H μ (f ρ S) fun b S' H' μ' => Q b H'
theorem seqO {K : PySem.W.Frag} {H H0 : Hp} {μ μ0 : List Addr} {S : Store} {ρ : Env} {σ : L2.St} {β : Type} {p : β → Store → Hp → List Addr → Prop} {f : Env → Store → Res (Option Int)} {g : Option Int → Store → Res β} {Q : Option Int → Hp → Prop} (st : Step H0 μ0 H μ) (t : SR K H μ S) (r : RE RX.lp K H μ ρ σ) (h : Out RX K (fun c d H' => W c d σ H') H0 μ0 ((f ρ S).bind g) p)
    (k : ∀ a S1 H1 μ1, Step H0 μ0 H1 μ1 → Step H μ H1 μ1 → SR K H1 μ1 S1 → RE RX.lp K H1 μ1 ρ σ → Out RX K (fun c d H' => W c d σ H') H0 μ0 (g a S1) p → Q a H1) : tO RX K W f σ H Q :=
  ⟨ρ, μ, S, t, r, (Out.bind st h).imp fun a S1 H1 μ1 s1 t1 ⟨st1, _, _, h1⟩ => k a S1 H1 μ1 st1 s1 t1 (r.step s1) h1⟩
theorem _root_.L2.PO.imp {X : Cx} {e : Option Expr} {t t' : TO} (h : PO X e t) (f : ∀ σ H Q, t' σ H Q → t σ H Q) : PO X e t' := ⟨fun pins s σ H Q I z => h.run pins s σ H Q I (f σ H Q z)⟩
theorem _root_.L2.PTs.imp {X : Cx} {e : List Expr} {t t' : TT} (h : PTs X e t) (f : ∀ σ H Q, t' σ H Q → t σ H Q) : PTs X e t' := ⟨fun pins s σ H Q I z => h.run pins s σ H Q I (f σ H Q z)⟩
theorem sSlc {a : E} {lo hi : Eo} {ea : Expr} {l h : Option Expr} {p p2 : Pos} (ha : Snd RX X W ea (evE C call a)) (hl : PO X l (tO RX X.K W (evB C call lo))) (hh : PO X h (tO RX X.K W (evB C call hi))) :
    Snd RX X W (.Subscript ea (.Slice l h none p2) p) (evE C call (.slc a lo hi)) := by
  refine both ((pe_slice (sl_all (RX := RX)) ha.1 hl hh).imp fun σ H Q hq => ?_) (by intro _; rfl)
  obtain ⟨ρ, μ, S, t, r, h⟩ := hq
  rw [evE] at h
  refine seqE .refl t r h fun x S1 H1 μ1 v st1 s1 t1 r1 hx h1 => seqO st1 t1 r1 h1 fun y S2 H2 μ2 st2 s2 t2 r2 h2 => seqO st2 t2 r2 h2 fun z S3 H3 μ3 st3 s3 t3 r3 h3 => ?_
  exact ⟨_, H, μ, μ3, S3, x, st3, t3, (hx.step s2).step s3, h3⟩
theorem sRev {a : E} {ea : Expr} {k : Nat} {p p1 p2 p3 : Pos} (ha : Snd RX X W ea (evE C call a)) : Snd RX X W (.Subscript ea (.Slice none none (some (.UnaryOp .USub (.Constant (.int 1) k p1) p2)) p3) p) (evE C call (.rev a)) := by
  refine both ((pe_revT ha.1).imp fun σ H Q hq => ?_) (by intro _; rfl)
  obtain ⟨ρ, μ, S, t, r, h⟩ := hq
  rw [evE] at h
  refine seqE .refl t r h fun x S1 H1 μ1 v st1 s1 t1 r1 hx h1 => ?_
  unfold getRev at h1
  split at h1
  · rename_i ds e
    obtain ⟨ea, q, vs, e1, h2, h3⟩ := seq_tup t1 hx e
    exact ⟨q, vs, e1, .inl ⟨h2, fun p hp => h1 _ μ1 (st1.new hp) (t1.new hp) _ (new_tup h3.rev hp)⟩⟩
  · rename_i ds e
    obtain ⟨q, vs, e1, h2, h3, _⟩ := seq_lst t1 hx e
    exact ⟨q, vs, e1, .inr ⟨.inl h2, fun p hp => h1 _ μ1 (st1.new hp) (t1.new hp) _ (new_lst st1 t1 h3.rev hp)⟩⟩
  · exact h1.elim
theorem Bi1.mem (b : Bi1) : b.nm ∈ bnames := by cases b <;> decide +kernel
theorem Bi2.mem (b : Bi2) : b.nm ∈ bnames := by cases b <;> decide +kernel
theorem Ty.mem (b : Ty) : b.nm ∈ bnames := by cases b <;> decide +kernel
theorem pe_bi1 (st : Site RX C call m X W) (b : Bi1) {r : List L2.V → Hp → VK → Prop} (hc : CallR X b.val r) (hg : isG m b.nm = true) {e : Expr} {t : TA} {p pos : Pos} (ha : PA X [e] t) (he : starEach [e] X.env = (false, eval e X.env) :: starEach [] X.env) : PE X (.Call (.Name b.nm p) [e] [] pos) (tCB r t) := by
  obtain ⟨g1, g2, g3⟩ := st.g hg
  have hm := st.b b.mem
  cases b with
  | len => exact pe_callB hc g1 hm (by decide +kernel) ha g3 g2 he rfl
  | abs => exact pe_callB hc g1 hm (by decide +kernel) ha g3 g2 he rfl
  | all => exact pe_callB hc g1 hm (by decide +kernel) ha g3 g2 he rfl
  | any => exact pe_callB hc g1 hm (by decide +kernel) ha g3 g2 he rfl
  | repr => exact pe_callB hc g1 hm (by decide +kernel) ha g3 g2 he rfl
  | int => exact pe_callTy hc g1 hm (by decide +kernel) ha g3 g2 he rfl
  | bool => exact pe_callTy hc g1 hm (by decide +kernel) ha g3 g2 he rfl
  | tuple => exact pe_callTy hc g1 hm (by decide +kernel) ha g3 g2 he rfl
  | list => exact pe_callTy hc g1 hm (by decide +kernel) ha g3 g2 he rfl
theorem sBi1 (st : Site RX C call m X W) (b : Bi1) {a : E} {ps : PL} {p pos : Pos} (hg : isG m b.nm = true) (ha : Snd RX X W (pE m a ps).1 (evE C call a)) : Snd RX X W (.Call (.Name b.nm p) [(pE m a ps).1] [] pos) (evE C call (.bi1 b a)) := by
  refine both ((pe_bi1 st b (call_bi1 (RX := RX) st.calm st.gd st.un b) hg (pa_cons ha.1 pa_nil (star_cons _ m a ps [])) (star_cons _ m a ps [])).imp fun σ H Q hq => ?_) (by intro _; rfl)
  obtain ⟨ρ, μ, S, t, r, h⟩ := hq
  rw [evE] at h
  exact seqE .refl t r h fun x S1 H1 μ1 v st1 s1 t1 r1 hx h1 => ⟨_, H, μ, μ1, S1, x, v, rfl, st1, t1, hx, h1⟩
theorem pe_bi2 (st : Site RX C call m X W) (b : Bi2) {r : List L2.V → Hp → VK → Prop} (hc : CallR X b.val r) (hg : isG m b.nm = true) {e e2 : Expr} {t : TA} {p pos : Pos} (ha : PA X [e, e2] t) (he : starEach [e, e2] X.env = (false, eval e X.env) :: starEach [e2] X.env) (hp : (backTo pos (starEach [e2] X.env)).any (·.1) = false) : PE X (.Call (.Name b.nm p) [e, e2] [] pos) (tCB r t) := by
  obtain ⟨g1, g2, g3⟩ := st.g hg
  have hm := st.b b.mem
  cases b with
  | min => exact pe_callB hc g1 hm (by decide +kernel) ha g3 g2 he hp
  | max => exact pe_callB hc g1 hm (by decide +kernel) ha g3 g2 he hp
  | divmod => exact pe_callB hc g1 hm (by decide +kernel) ha g3 g2 he hp
theorem star_one (env : PySem.Env) (pos : Pos) (e : E) (ps : PL) : (backTo pos (starEach [(pE m e ps).1] env)).any (·.1) = false := by
  rw [star_cons]
  rfl
theorem sBi2 (st : Site RX C call m X W) (b : Bi2) {a c : E} {ps qs : PL} {p pos : Pos} (hg : isG m b.nm = true) (ha : Snd RX X W (pE m a ps).1 (evE C call a)) (hc : Snd RX X W (pE m c qs).1 (evE C call c)) : Snd RX X W (.Call (.Name b.nm p) [(pE m a ps).1, (pE m c qs).1] [] pos) (evE C call (.bi2 b a c)) := by
  refine both ((pe_bi2 st b (call_bi2 (RX := RX) st.calm b) hg (pa_cons ha.1 (pa_cons hc.1 pa_nil (star_cons _ m c qs [])) (star_cons _ m a ps _)) (star_cons _ m a ps _) (star_one _ _ c qs)).imp fun σ H Q hq => ?_) (by intro _; rfl)
  obtain ⟨ρ, μ, S, t, r, h⟩ := hq
  rw [evE] at h
  exact seqE .refl t r h fun x S1 H1 μ1 v st1 s1 t1 r1 hx h1 => seqE st1 t1 r1 h1 fun y S2 H2 μ2 u st2 s2 t2 r2 hy h2 => ⟨_, H, μ, μ2, S2, x, y, v, u, rfl, st2, t2, hx.step s2, hy.base st1.live, h2⟩
/-- a type's name -/
theorem pe_ty (st : Site RX C call m X W) (T : Ty) {p : Pos} (hg : isG m T.nm = true) : PE X (.Name T.nm p) (tC T.v) := by
  obtain ⟨g1, g2, g3⟩ := st.g hg
  exact ⟨fun pins s σ H Q I h => ld_blt I g1 (st.b T.mem) T.boot ⟨T.v, H, I, T.rel, h⟩ g3 g2⟩
theorem sIsi (st : Site RX C call m X W) {a : E} {T : Ty} {ps : PL} {p p2 pos : Pos} (hg : isG m "isinstance" = true) (hT : isG m T.nm = true) (ha : Snd RX X W (pE m a ps).1 (evE C call a)) : Snd RX X W (.Call (.Name "isinstance" p) [(pE m a ps).1, .Name T.nm p2] [] pos) (evE C call (.isi a T)) := by
  obtain ⟨g1, g2, g3⟩ := st.g hg
  refine both ((pe_callB call_isi g1 (st.b (by decide +kernel)) (by decide +kernel) (pa_cons ha.1 (pa_cons (pe_ty st T hT) pa_nil rfl) (star_cons _ m a ps _)) g3 g2 (star_cons _ m a ps _) rfl).imp fun σ H Q hq => ?_) (by intro _; rfl)
  obtain ⟨ρ, μ, S, t, r, h⟩ := hq
  rw [evE] at h
  refine seqE .refl t r h fun x S1 H1 μ1 v st1 s1 t1 r1 hx h1 => ?_
  obtain ⟨b, eb, h2⟩ := h1.opt
  obtain ⟨ty, k1, k2⟩ := tyx_of t1 hx ⟨T, b, eb⟩
  exact ⟨v, T.v, ty, T.val, b, rfl, T.cls, k1, k2 _ _ eb, h2 H1 μ1 st1 t1 _ (.bl _)⟩
end
end Q
end
section
-- Snd11
set_option Elab.async false
set_option linter.all false
set_option maxRecDepth 100000
set_option maxHeartbeats 4000000
namespace Q
open PySem PySem.Spec PyProof.Rows L2

section
variable {RX : RXT} {C : Ctx} {call : Nat → List D → Store → Res R} {m : Nm} {X : Cx} {W : WX}
theorem paired_ty : ∀ ts : List Ty, PySem.Paired ClsV (ts.map Ty.v) (ts.map Ty.val)
  | [] => .nil
  | t :: r => .cons t.cls (paired_ty r)
theorem kitAny_of {K : PySem.W.Frag} {ty : Value} {S : Store} {a : R} (k : ∀ t b, tyIs S a t = some b → PySem.W.kitOne K ty t.val = some b) : ∀ (ts : List Ty) bs, ts.mapM (tyIs S a) = some bs → PySem.W.kitAny K ty (ts.map Ty.val) = some (bs.any id)
  | [], bs, e => by
    cases e
    rfl
  | t :: r, bs, e => by
    rw [List.mapM_cons] at e
    cases e1 : tyIs S a t with
    | none => rw [e1] at e; cases e
    | some b =>
      rw [e1] at e
      cases e2 : r.mapM (tyIs S a) with
      | none => rw [e2] at e; cases e
      | some cs =>
        rw [e2] at e
        cases e
        rw [List.map_cons]
        unfold PySem.W.kitAny
        rw [k t b e1]
        cases b with
        | true => rfl
        | false => exact (kitAny_of k r cs e2).trans (by rw [List.any_cons]; rfl)
theorem pa_tys (st : Site RX C call m X W) : ∀ (ts : List Ty) (ps : PL), ts.all (fun t => isG m t.nm) = true → PA X (tyExprs ts ps) fun σ H Q => Q (ts.map Ty.v) H
  | [], ps, _ => pa_nil
  | t :: r, ps, h => by
    rw [List.all_cons, Bool.and_eq_true] at h
    exact pa_cons (pe_ty st t h.1) (pa_tys st r ps.tail h.2) rfl
theorem sIsiT (st : Site RX C call m X W) {a : E} {ts : List Ty} {ps qs : PL} {k : Nat} {p p2 pos : Pos} (hg : isG m "isinstance" = true) (hT : ts.all (fun t => isG m t.nm) = true) (hne : (!ts.isEmpty) = true) (hz : ts.length ≤ 5000) (ha : Snd RX X W (pE m a ps).1 (evE C call a)) : Snd RX X W (.Call (.Name "isinstance" p) [(pE m a ps).1, .Tuple (tyExprs ts qs) k p2] [] pos) (evE C call (.isiT a ts)) := by
  obtain ⟨g1, g2, g3⟩ := st.g hg
  refine both ((pe_callB call_isiT g1 (st.b (by decide +kernel)) (by decide +kernel) (pa_cons ha.1 (pa_cons (pe_tup (pa_tys st ts qs hT)) pa_nil rfl) (star_cons _ m a ps _)) g3 g2 (star_cons _ m a ps _) rfl).imp fun σ H Q hq => ?_) (by intro _; rfl)
  obtain ⟨ρ, μ, S, t, r, h⟩ := hq
  rw [evE] at h
  refine seqE .refl t r h fun x S1 H1 μ1 v st1 s1 t1 r1 hx h1 => ?_
  obtain ⟨bs, eb, h2⟩ := h1.opt
  refine ⟨by rw [List.length_map, sizeLine_eq]; omega, fun tp htp => ?_⟩
  have hx2 : RR X.K H (upd H1 tp (.tup (ts.map Ty.v))) μ1 x v := hx.step (StepD.grow (grow_upd htp))
  have t2 := t1.new (o := .tup (ts.map Ty.v)) htp
  cases ts with
  | nil => cases hne
  | cons t0 r0 =>
    have hty : ∃ b, tyIs S1 x t0 = some b := by
      rw [List.mapM_cons] at eb
      cases e1 : tyIs S1 x t0 with
      | none => rw [e1] at eb; cases eb
      | some b => exact ⟨b, rfl⟩
    obtain ⟨b1, e1⟩ := hty
    obtain ⟨ty, k1, k2⟩ := tyx_of t2 hx2 ⟨_, _, e1⟩
    exact ⟨v, tp, _, ty, _, _, rfl, upd_same, paired_ty _, k1, kitAny_of k2 _ _ eb, h2 _ μ1 (st1.new htp) t2 _ (.bl _)⟩
theorem sMet (st : Site RX C call m X W) {o a : E} {ps qs : PL} {p pos : Pos} (hb : notCall o = true) (ho : Snd RX X W (pE m o ps).1 (evE C call o)) (ha : Snd RX X W (pE m a qs).1 (evE C call a)) :
    Snd RX X W (.Call (.Attribute (pE m o ps).1 Mth.append.nm { p with endLine := pos.line }) [(pE m a qs).1] [] pos) (evE C call (.met .append o a)) := by
  have e1 : attributeBase (pE m o ps).1 Mth.append.nm X.env (eval (pE m o ps).1 X.env) = eval (pE m o ps).1 X.env := by
    cases o <;> first | rfl | cases hb
  refine both ((pe_bm (T := "list") (id := "list.append") PySem.F.plainAttrs_list PySem.F.slot_list_append PySem.F.type_list_append mt_append ho.1 (pa_cons ha.1 pa_nil (star_cons _ m a qs [])) e1 ?_ (beq_self_eq_true _) (star_cons _ m a qs []) rfl).imp fun σ H Q hq => ?_) (by intro _; rfl)
  · rw [star_cons]
    rfl
  · obtain ⟨ρ, μ, S, t, r, h⟩ := hq
    rw [evE] at h
    refine seqE .refl t r h fun x S1 H1 μ1 v st1 s1 t1 r1 hx h1 => ?_
    split at h1
    · rename_i n
      split at h1
      · rename_i ds0 e0
        cases (show RD X.K H1 μ1 (.ref n) v from hx) with
        | @ref _ p' hm =>
          obtain ⟨o0, f0, vs0, f1, f2⟩ := t1.cell n _ _ e0 hm
          subst f1
          refine ⟨.inl ⟨rfl, vs0, SqL.of f0⟩, seqE st1 t1 r1 h1 fun y S2 H2 μ2 u st2 s2 t2 r2 hy h2 => ?_⟩
          obtain ⟨d, S3, μ3, st3, t3, rd, hix, hmem, h3⟩ := Out.settle st2 t2 hy st1.live h2
          have hm3 := hix n _ (s2.ix hm)
          unfold evMet at h3
          dsimp only at h3
          split at h3
          · rename_i ds e3
            split at h3
            · rename_i hz
              obtain ⟨o1, g0, vs1, g1, g2⟩ := t3.cell n _ _ e3 hm3
              subst g1
              have nt := imm_lst g0
              obtain ⟨w1, w2⟩ := t3.write (c := .lst (ds ++ [d])) (o := .lst (vs1 ++ [u])) hm3 ⟨_, rfl, g2.append (.cons rd .nil)⟩ nt
              refine ⟨p', vs1, u, rfl, rfl, g0, ?_, h3 _ _ (st3.trans w2) w1 _ .non⟩
              have := Nat.blt_eq.mp hz
              rw [← g2.length, sizeLine_eq]
              exact this
            · exact h3.elim
          · exact h3.elim
      · exact h1.elim
    · exact h1.elim
theorem sDct0 {p : Pos} : Snd RX X W (.Dict [] [] p) (evE C call .dct0) := by
  refine both (pe_dnewK.imp fun σ H Q hq => ?_) (by intro _; rfl)
  obtain ⟨ρ, μ, S, t, r, h⟩ := hq
  rw [evE] at h
  intro p hp
  have np := not_in t hp
  have s1 : Step H μ (upd H p (.dK [])) (μ ++ [p]) := by
    refine StepD.mk' (fun a o e _ => grow_upd hp a o e) (im_grow (grow_upd hp)) (fun a e => ?_) ⟨[p], rfl, fun a ha => ?_⟩
    · by_cases z : a = p
      · rw [z]; exact hp
      · rw [upd_ne z] at e; exact e
    · rw [List.mem_singleton] at ha; rw [ha]; exact hp
  refine h _ (μ ++ [p]) s1 ((t.new hp).alloc (c := .dct []) upd_same np ⟨rfl, rfl⟩) _ (.ref ?_)
  rw [← t.len, List.getElem?_append_right (Nat.le_refl _), Nat.sub_self]
  rfl
theorem sCall (st : Site RX C call m X W) {f : Nat} {es : Es} {p pos : Pos} {ps : PL} (hk : kE m (.call f es) = true) (ha : PA X (pEs m es ps).1 (tA RX X.K W (evEs C call es))) : Snd RX X W (.Call (.Name (fnOf m.fn f) p) (pEs m es ps).1 [] pos) (evE C call (.call f es)) := by
  rw [kE, Bool.and_eq_true, Bool.and_eq_true] at hk
  obtain ⟨⟨h1, h2⟩, h3⟩ := hk
  split at h1
  case h_2 => cases h1
  rename_i x np nd e1
  rw [Bool.and_eq_true, Bool.and_eq_true] at h1
  obtain ⟨⟨h1, h4⟩, h5⟩ := h1
  obtain ⟨g1, g2, g3⟩ := st.g h1
  obtain ⟨F, fa, fd, pps, k, f1, f2, f3, f4, f5, f6, f7, f8⟩ := st.fn f x np nd e1
  obtain ⟨us, dvs, b1, b2, b3⟩ := f8 es.len (Nat.ble_eq.mp h4) (Nat.ble_eq.mp h5)
  have ex : fnOf m.fn f = x := by
    unfold fnOf
    rw [List.getD_eq_getElem?_getD, e1]
    rfl
  rw [ex]
  cases es with
  | nil => cases h3
  | cons e r =>
    have e2 : (pEs m (.cons e r) ps).1 = (pE m e ps).1 :: (pEs m r (pE m e ps).2).1 := by rw [pEs]
    rw [e2] at ha ⊢
    refine both ((pe_callG f6 f7 st.gd g1 f4 f5 b1 b2 (passAt st.tk) ha g2 (star_cons _ m e ps _) (star_plain _ _ m r _)).imp fun σ H Q hq => ?_) (by intro _; rfl)
    obtain ⟨ρ, μ, S, t, r0, h⟩ := hq
    rw [evE] at h
    refine seqA .refl t r0 h fun ds S1 H1 μ1 vs st1 s1 t1 r1 hv e h1 => ?_
    obtain ⟨ds', e3, h6⟩ := h1.opt
    have hl := evEs_len _ ρ S ds S1 e
    unfold fill at e3
    rw [f1] at e3
    dsimp only at e3
    split at e3
    case isFalse => cases e3
    cases e3
    rw [← hl] at b3
    refine ⟨_, μ1, S1, t1, hv.append (b3 H1 μ1), r1.pre, (Out.at st1 h6).imp fun a S2 H2 μ2 s2 t2 h7 v hv2 => h7 v (hv2.base st1.live)⟩
/-- several parts, by and, or -/
theorem bop_bind (o : BoolOp) (e e' : E) (r : Es) (ρ : Env) (S : Store) : tru (evBop C call o (.cons e (.cons e' r)) ρ S) = (tru (evE C call e ρ S)).bind fun k S => match o with
    | .And => if k then tru (evBop C call o (.cons e' r) ρ S) else .ok false S
    | .Or => if k then .ok true S else tru (evBop C call o (.cons e' r) ρ S) := by
  rw [evBop]
  unfold tru
  rw [Res.assoc, Res.assoc]
  congr 1
  funext x S1
  rw [opt_bind, opt_bind]
  cases hx : truth S1 x with
  | none => rfl
  | some k =>
    cases o <;> cases k <;> first | rfl | (show (Q.opt (truth S1 x) _) = _; rw [hx]; rfl)
theorem sBop1 (o : BoolOp) {e : E} {a : Expr} {p : Pos} (ha : Snd RX X W a (evE C call e)) : PE X (.BoolOp o [a] p) (tE RX X.K W (evBop C call o (.cons e .nil))) ∧ PW X (.BoolOp o [a] p) (tT RX X.K W fun ρ S => tru (evBop C call o (.cons e .nil) ρ S)) := by
  have e1 : evBop C call o (.cons e .nil) = evE C call e := by
    funext ρ S
    rw [evBop]
  rw [e1]
  refine ⟨pe_one ha.1, ?_⟩
  cases o with
  | And => exact pw_and1 ha.2
  | Or => exact pw_or1 ha.2
theorem _root_.L2.PW.imp {X : Cx} {e : Expr} {t t' : TT} (h : PW X e t) (f : ∀ σ H Q, t' σ H Q → t σ H Q) : PW X e t' := ⟨fun wh pins s σ H Q I z => h.run wh pins s σ H Q I (f σ H Q z)⟩
theorem sBop2 (o : BoolOp) {e e' : E} {r : Es} {a b : Expr} {rest : List Expr} {p : Pos} (ha : Snd RX X W a (evE C call e)) (hb : PE X (.BoolOp o (b :: rest) p) (tE RX X.K W (evBop C call o (.cons e' r))) ∧ PW X (.BoolOp o (b :: rest) p) (tT RX X.K W fun ρ S => tru (evBop C call o (.cons e' r) ρ S))) :
    PE X (.BoolOp o (a :: b :: rest) p) (tE RX X.K W (evBop C call o (.cons e (.cons e' r)))) ∧ PW X (.BoolOp o (a :: b :: rest) p) (tT RX X.K W fun ρ S => tru (evBop C call o (.cons e (.cons e' r)) ρ S)) := by
  have one : ∀ σ H Q, tE RX X.K W (evBop C call o (.cons e (.cons e' r))) σ H Q → tE RX X.K W (evE C call e) σ H fun x H1 => ∃ k, TruV X.K x H1 k ∧ match o with
      | .And => if k = true then tE RX X.K W (evBop C call o (.cons e' r)) σ H1 Q else Q x H1
      | .Or => if k = true then Q x H1 else tE RX X.K W (evBop C call o (.cons e' r)) σ H1 Q := by
    intro σ H Q hq
    obtain ⟨ρ, μ, S, t, r, h⟩ := hq
    rw [evBop] at h
    refine seqE .refl t r h fun x S1 H1 μ1 v st1 s1 t1 r1 hx h1 => ?_
    obtain ⟨k, ek, h2⟩ := h1.opt
    refine ⟨k, tru_of t1 hx ek, ?_⟩
    cases o <;> cases k
    · exact h2 H1 μ1 st1 t1 v hx
    · exact sameE st1 t1 r1 h2
    · exact sameE st1 t1 r1 h2
    · exact h2 H1 μ1 st1 t1 v hx
  have two : ∀ σ H Q, tT RX X.K W (fun ρ S => tru (evBop C call o (.cons e (.cons e' r)) ρ S)) σ H Q → tT RX X.K W (fun ρ S => tru (evE C call e ρ S)) σ H fun k H1 => match o with
      | .And => if k = true then tT RX X.K W (fun ρ S => tru (evBop C call o (.cons e' r) ρ S)) σ H1 Q else Q false H1
      | .Or => if k = true then Q true H1 else tT RX X.K W (fun ρ S => tru (evBop C call o (.cons e' r) ρ S)) σ H1 Q := by
    intro σ H Q hq
    obtain ⟨ρ, μ, S, t, r, h⟩ := hq
    dsimp only at h
    rw [bop_bind] at h
    refine seqT .refl t r h fun k S1 H1 μ1 st1 s1 t1 r1 h1 => ?_
    cases o <;> cases k
    · exact h1 H1 μ1 st1 t1
    · exact ⟨ρ, μ1, S1, t1, r1, Out.at st1 h1⟩
    · exact ⟨ρ, μ1, S1, t1, r1, Out.at st1 h1⟩
    · exact h1 H1 μ1 st1 t1
  cases o with
  | And => exact ⟨(pe_andT ha.1 hb.1).imp fun σ H Q hq => one σ H Q hq, (pw_and ha.2 hb.2).imp fun σ H Q hq => two σ H Q hq⟩
  | Or => exact ⟨(pe_orT ha.1 hb.1).imp fun σ H Q hq => one σ H Q hq, (pw_or ha.2 hb.2).imp fun σ H Q hq => two σ H Q hq⟩
end
end Q
end
section
-- Snd12
set_option Elab.async false
set_option linter.all false
set_option maxRecDepth 100000
set_option maxHeartbeats 4000000
namespace Q
open PySem PySem.Spec PyProof.Rows L2

section
variable {RX : RXT} {C : Ctx} {call : Nat → List D → Store → Res R} {m : Nm} {X : Cx} {W : WX}
/-! ### targets -/
theorem sNm (st : Site RX C call m X W) {i : Nat} {p : Pos} (h : isA m i = true) : PG X (.Name (nmOf m.N i) p) (tG RX X.K (T.nm i).slots (asT C call (.nm i))) := by
  obtain ⟨h1, h2, h3, h4⟩ := st.a h
  refine (pg_name (i := i) (by rw [st.nN]; exact st.nd) h1 h2 h3).imp fun v σ H Q hq => ?_
  obtain ⟨d, ρ, μ, S, rd, t, r, h⟩ := hq
  rw [asT] at h
  exact h H μ .refl t _ (r.set rd i h4) (by rw [T.slots]; exact SameS.set i _)
theorem ts_len (m : Nm) : ∀ (ts : Ts) (ps : PL), (pTs m ts ps).1.length = ts.len
  | .nil, ps => by rw [pTs]; rfl
  | .cons t r, ps => by rw [pTs, List.length_cons, ts_len m r]; rfl
theorem sTp (st : Site RX C call m X W) {ts : Ts} {ps : PL} {p : Pos} (h : PGs X (pTs m ts ps).1 (tGs RX X.K ts.slots (asTs C call ts))) : PG X (.Tuple (pTs m ts ps).1 0 p) (tG RX X.K (T.tp ts).slots (asT C call (.tp ts))) := by
  obtain ⟨a1, a2⟩ := asg_len X.env m ts ps
  refine (pg_tup st.calm h a1 a2).imp fun v σ H Q hq => ?_
  obtain ⟨d, ρ, μ, S, rd, t, r, h⟩ := hq
  rw [asT] at h
  obtain ⟨ds, e, h4⟩ := h.opt
  unfold tupOf at e
  split at e
  · rename_i ds'
    split at e
    · rename_i hl
      cases e
      cases rd with
      | @tup a vs _ h1 h2 =>
        refine ⟨a, vs, rfl, h1, ?_, ds, ρ, μ, S, h2, t, r, ?_⟩
        · rw [← h2.length, ts_len]
          exact eq_of_beq hl
        · rw [T.slots] at h4
          exact h4
    · cases e
  · cases e
theorem SameS.weak {σ σ' : L2.St} {l l' : List Nat} (h : SameS σ σ' l) (s : ∀ i ∈ l, i ∈ l') : SameS σ σ' l' := ⟨h.len, fun i hi => h.at_ i fun z => hi (s i z)⟩
theorem seqE0 {K : PySem.W.Frag} {H H0 : Hp} {μ μ0 : List Addr} {S : Store} {ρ : Env} {σ : L2.St} {β : Type} {p : β → Store → Hp → List Addr → Prop} {f : Env → Store → Res R} {g : R → Store → Res β} {Q : VK} (st : Step H0 μ0 H μ) (t : SR K H μ S) (r : RE RX.lp K H μ ρ σ) (h : Out RX K (fun _ _ _ => False) H0 μ0 ((f ρ S).bind g) p)
    (k : ∀ a S1 H1 μ1 v, Step H0 μ0 H1 μ1 → Step H μ H1 μ1 → SR K H1 μ1 S1 → RE RX.lp K H1 μ1 ρ σ → RR K H H1 μ1 a v → Out RX K (fun _ _ _ => False) H0 μ0 (g a S1) p → Q v H1) : tE RX K W f σ H Q :=
  ⟨ρ, μ, S, t, r, ((Out.bind st h).impE fun _ _ _ z => z.elim).imp fun a S1 H1 μ1 s1 t1 ⟨st1, _, _, h1⟩ v hv => k a S1 H1 μ1 v st1 s1 t1 (r.step s1) hv h1⟩
theorem sSb {o i : E} {eo : Expr} {ps : PL} {p : Pos} (ho : Snd RX X W eo (evE C call o)) (hi : Snd RX X W (pE m i ps).1 (evE C call i)) : PG X (.Subscript eo (pE m i ps).1 p) (tG RX X.K (T.sb o i).slots (asT C call (.sb o i))) := by
  refine (pg_sub ho.1 hi.1 set_list (by intro v; cases i <;> rfl)).imp fun v σ H Q hq => ?_
  obtain ⟨d, ρ, μ, S, rd, t, r, h⟩ := hq
  rw [asT] at h
  refine seqE0 .refl t r h fun x S1 H1 μ1 ov st1 s1 t1 r1 hx h1 => seqE0 st1 t1 r1 h1 fun y S2 H2 μ2 iv st2 s2 t2 r2 hy h2 => ?_
  split at h2
  · rename_i n k
    split at h2
    · rename_i ds e
      obtain ⟨j, ej, h3⟩ := h2.opt
      cases (show RD X.K H1 μ1 (.ref n) ov from hx) with
      | @ref _ p' hm =>
        have hm2 := s2.ix hm
        have e2 := rd_int hy
        subst e2
        obtain ⟨o1, g0, vs1, g1, g2⟩ := t2.cell n _ _ e hm2
        subst g1
        have nt := imm_lst g0
        obtain ⟨w1, w2⟩ := t2.write (c := .lst (ds.set j d)) (o := .lst (vs1.set j v)) hm2 ⟨_, rfl, RDs.set (rd.step st2) j g2⟩ nt
        refine ⟨p', vs1, k, j, rfl, rfl, g0, ?_, h3 _ _ (st2.trans w2) w1 σ (r2.step w2) .refl⟩
        rw [← g2.length]
        exact ej
    · exact h2.elim
  · exact h2.elim
theorem sTsNil : PGs X [] (tGs RX X.K Ts.nil.slots (asTs C call .nil)) := by
  refine ⟨fun pins s σ H vs us Q I rv hq => pgs_nil.run pins s σ H vs us Q I rv ?_⟩
  obtain ⟨d, ρ, μ, S, rd, t, r, h⟩ := hq
  rw [asTs] at h
  split at h
  · rename_i he
    rw [List.isEmpty_iff] at he
    subst he
    cases rd
    exact ⟨rfl, h H μ .refl t σ r .refl⟩
  · exact h.elim
theorem sTsCons {t : T} {ts : Ts} {ps qs : PL} (h1 : PG X (pT m t ps).1 (tG RX X.K t.slots (asT C call t))) (h2 : PGs X (pTs m ts qs).1 (tGs RX X.K ts.slots (asTs C call ts))) :
    PGs X ((pT m t ps).1 :: (pTs m ts qs).1) (tGs RX X.K (Ts.cons t ts).slots (asTs C call (.cons t ts))) := by
  refine ⟨fun pins s σ H vs us Q I rv hq => (pgs_cons h1 h2 (by rw [asg_each]; rfl)).run pins s σ H vs us Q I rv ?_⟩
  obtain ⟨d, ρ, μ, S, rd, tt, r, h⟩ := hq
  rw [asTs] at h
  obtain ⟨⟨d0, ds0⟩, e, h⟩ := h.opt
  cases d with
  | nil => cases e
  | cons d1 ds1 =>
    cases e
    cases rd with
    | @cons _ v _ vs' r0 r1 =>
      refine ⟨v, vs', rfl, d0, ρ, μ, S, r0, tt, r, (Out.bind .refl h).imp fun ρ1 S1 H1 μ1 s1 t1 ⟨st1, _, _, h1⟩ σ1 re1 ss1 => ?_⟩
      refine ⟨ds0, ρ1, μ1, S1, r1.step s1, t1, re1, (Out.at st1 h1).imp fun ρ2 S2 H2 μ2 s2 t2 h2 σ2 re2 ss2 => h2 σ2 re2 ?_⟩
      rw [Ts.slots]
      exact ss1.trans ss2

/-! ### what is walked -/
def iSeq (K : PySem.W.Frag) (tl : TE) : TI := fun σ H R => tl σ H fun x H1 => ∃ a, x = .ref a ∧ (((∃ xs, SqL K H1 a xs) ∧ R (Itl K a) H1) ∨ ((∃ xs, SqT K H1 a xs) ∧ R (Itt K a) H1))
theorem pi_seq {tg l : Expr} {tl : TE} (hl : PE X l tl) : PI X tg l (iSeq X.K tl) := by
  refine ⟨fun pins s σ H R I h => ?_⟩
  refine thn (hl.run pins s σ H _ I h) fun v t1 ⟨x, G1, J1, y1, z1⟩ => ?_
  obtain ⟨a, e, z1⟩ := z1
  subst e
  cases y1
  rcases z1 with ⟨⟨ys, hy2⟩, q⟩ | ⟨⟨ys, hy2⟩, q⟩
  · obtain ⟨cs, rw2, p, hz2⟩ := J1.list hy2
    refine wpAny_pyIter_list p.isList ?_
    refine ⟨t1.heap.objs.size, [t1.heap.objs.size], _, _, G1, rfl, J1.kept (t' := t1.toks) fun b o e => Heap.get?_push_of_some _ e, turn_list a _, ⟨_, Heap.get?_push_size _ rfl, rfl, rfl⟩, fun b hb => ?_, q⟩
    have e : b = t1.heap.objs.size := by simpa using hb
    subst e
    exact J1.fpOk (Nat.le_refl _) (J1.hok.fresh (Nat.le_refl _))
  · obtain ⟨cs, rw2, p, hz2⟩ := J1.tuple hy2
    refine wpAny_pyIter_tuple (show t1.heap.IsTuple a cs.toArray from p) ?_
    refine ⟨t1.heap.objs.size, [t1.heap.objs.size], _, _, G1, rfl, J1.kept (t' := t1.toks) fun b o e => Heap.get?_push_of_some _ e, turn_tuple a _, ⟨_, Heap.get?_push_size _ rfl, rfl, rfl⟩, fun b hb => ?_, q⟩
    have e : b = t1.heap.objs.size := by simpa using hb
    subst e
    exact J1.fpOk (Nat.le_refl _) (J1.hok.fresh (Nat.le_refl _))
theorem iSeqI {tg : Expr} {e : E} {l : Expr} (hl : PE X l (tE RX X.K W (evE C call e))) : PI X tg l (iI RX X.K W (evI C call (.seq e))) := by
  refine (pi_seq hl).lens.imp fun σ H R hq => ?_
  obtain ⟨ρ, μ, S, t, r, h⟩ := hq
  rw [evI] at h
  refine seqE .refl t r h fun x S1 H1 μ1 v st1 s1 t1 r1 hx h1 => ?_
  obtain ⟨I, eI, h2⟩ := h1.opt
  cases x with
  | t ds =>
    cases eI
    obtain ⟨a, vs, e1, h0, g1, g2, g3⟩ := hx
    refine ⟨a, e1, .inl ⟨⟨vs, SqL.of g1⟩, fun ln => h2 H1 μ1 st1 t1 ln _ ⟨?_, _, wk_lst, fun D hD => ⟨g1, g2, fun z => ?_, g3⟩⟩⟩⟩
    · rw [g3.length]
      exact ln.lst _ _ g1
    · rw [hD a z.symm] at g1
      cases g1
  | v d =>
    unfold iterOf at eI
    dsimp only at eI
    split at eI
    · rename_i ds
      cases eI
      cases (show RD X.K H1 μ1 (.tup ds) v from hx) with
      | @tup a vs _ g1 g2 =>
        refine ⟨a, rfl, .inr ⟨⟨vs, g1⟩, fun ln => h2 H1 μ1 st1 t1 ln _ ⟨?_, _, wk_tup, fun D hD => ⟨g1, g2⟩⟩⟩⟩
        rw [g2.length]
        exact ln.tup _ _ g1
    · rename_i n
      split at eI
      · rename_i ds e
        cases eI
        cases (show RD X.K H1 μ1 (.ref n) v from hx) with
        | @ref _ a hm =>
          obtain ⟨o1, g0, vs1, g1, g2⟩ := t1.cell n _ _ e hm
          subst g1
          exact ⟨a, rfl, .inl ⟨⟨vs1, SqL.of g0⟩, fun ln => h2 H1 μ1 st1 t1 ln _ ⟨a, hm, rfl⟩⟩⟩
      · cases eI
    · rename_i ds
      cases eI
      cases (show RD X.K H1 μ1 (.fz ds) v from hx) with
      | @fz a vs _ g1 g2 =>
        refine ⟨a, rfl, .inl ⟨⟨vs, .inl (imm_rd g1)⟩, fun ln => h2 H1 μ1 st1 t1 ln _ ⟨?_, _, wk_fz, fun D hD => ⟨g1, g2⟩⟩⟩⟩
        rw [g2.length]
        exact ln.fz _ _ g1
    · cases eI
theorem rng_le {i : Int} (h : rngOk i = true) : -16777216 ≤ i ∧ i ≤ 16777216 := by
  unfold rngOk at h
  rw [Bool.and_eq_true] at h
  exact ⟨of_decide_eq_true h.1, of_decide_eq_true h.2⟩
theorem iRng1I (st : Site RX C call m X W) {tg : Expr} {a : E} {ps : PL} {p pos : Pos} (hg : isG m "range" = true) (ha : PE X (pE m a ps).1 (tE RX X.K W (evE C call a))) : PI X tg (.Call (.Name "range" p) [(pE m a ps).1] [] pos) (iI RX X.K W (evI C call (.rng1 a))) := by
  obtain ⟨g1, g2, g3⟩ := st.g hg
  refine (pi_range1 g1 (st.b (by decide +kernel)) (pa_cons ha pa_nil (star_cons _ m a ps [])) (star_cons _ m a ps [])).lens.imp fun σ H R hq => ?_
  obtain ⟨ρ, μ, S, t, r, h⟩ := hq
  rw [evI] at h
  refine seqE .refl t r h fun x S1 H1 μ1 v st1 s1 t1 r1 hx h1 => ?_
  split at h1
  · rename_i i
    split at h1
    · rename_i hr
      have e := rd_int hx
      subst e
      obtain ⟨b1, b2⟩ := rng_le hr
      refine ⟨i, rfl, by omega, by omega, fun ln => h1 H1 μ1 st1 t1 ln _ ⟨?_, fun _ _ _ => True, ?_, fun D hD => trivial⟩⟩
      · rw [range_len, sizeLine_eq]
        omega
      · have := wk_range (K := X.K) (i := 0) (j := i)
        rw [Int.sub_zero] at this
        exact this
    · exact h1.elim
  · exact h1.elim
theorem iRng2I (st : Site RX C call m X W) {tg : Expr} {a c : E} {ps qs : PL} {p pos : Pos} (hg : isG m "range" = true) (ha : PE X (pE m a ps).1 (tE RX X.K W (evE C call a))) (hc : PE X (pE m c qs).1 (tE RX X.K W (evE C call c))) : PI X tg (.Call (.Name "range" p) [(pE m a ps).1, (pE m c qs).1] [] pos) (iI RX X.K W (evI C call (.rng2 a c))) := by
  obtain ⟨g1, g2, g3⟩ := st.g hg
  refine (pi_range2 g1 (st.b (by decide +kernel)) (pa_cons ha (pa_cons hc pa_nil (star_cons _ m c qs [])) (star_cons _ m a ps _)) (by rw [star_cons, star_cons]; rfl) (star_cons _ m c qs [])).lens.imp fun σ H R hq => ?_
  obtain ⟨ρ, μ, S, t, r, h⟩ := hq
  rw [evI] at h
  refine seqE .refl t r h fun x S1 H1 μ1 v st1 s1 t1 r1 hx h1 => seqE st1 t1 r1 h1 fun y S2 H2 μ2 u st2 s2 t2 r2 hy h2 => ?_
  split at h2
  · rename_i i j
    split at h2
    · rename_i hr
      rw [Bool.and_eq_true, Bool.and_eq_true] at hr
      have e := rd_int hx
      have e' := rd_int hy
      subst e e'
      obtain ⟨b1, b2⟩ := rng_le hr.1.1
      obtain ⟨b3, b4⟩ := rng_le hr.1.2
      have b5 := of_decide_eq_true hr.2
      refine ⟨i, j, rfl, ⟨by omega, by omega, by omega, by omega⟩, fun ln => h2 H2 μ2 st2 t2 ln _ ⟨?_, fun _ _ _ => True, wk_range, fun D hD => trivial⟩⟩
      rw [range_len, sizeLine_eq]
      omega
    · exact h2.elim
  · exact h2.elim
theorem iZipI (st : Site RX C call m X W) {elts : List Expr} {kk : Nat} {tpos : Pos} {a c : E} {ps qs : PL} {p pos : Pos} (hg : isG m "zip" = true) (ha : PE X (pE m a ps).1 (tE RX X.K W (evE C call a))) (hc : PE X (pE m c qs).1 (tE RX X.K W (evE C call c))) : PI X (.Tuple elts kk tpos) (.Call (.Name "zip" p) [(pE m a ps).1, (pE m c qs).1] [] pos) (iI RX X.K W (evI C call (.zip a c))) := by
  obtain ⟨g1, g2, g3⟩ := st.g hg
  refine (RZ.pi_zipA g1 (st.b (by decide +kernel)) (pa_cons ha (pa_cons hc pa_nil (star_cons _ m c qs [])) (star_cons _ m a ps _)) (star_cons _ m a ps _) (star_one _ _ c qs)).lens.imp fun σ H R hq => ?_
  obtain ⟨ρ, μ, S, t, r, h⟩ := hq
  rw [evI] at h
  refine seqE .refl t r h fun x S1 H1 μ1 v st1 s1 t1 r1 hx h1 => seqE st1 t1 r1 h1 fun y S2 H2 μ2 u st2 s2 t2 r2 hy h2 => ?_
  obtain ⟨ds, eI, h3⟩ := h2.opt
  unfold zipped at eI
  split at eI
  · rename_i x1 y1
    cases eI
    have hx2 : RD X.K H2 μ2 (.tup x1) v := (hx.step s2 : RR X.K H H2 μ2 (.v (.tup x1)) v)
    cases hx2 with
    | @tup a1 vs1 _ k1 k2 =>
      cases (show RD X.K H2 μ2 (.tup y1) u from hy) with
      | @tup a2 vs2 _ k3 k4 =>
        refine ⟨a1, a2, vs1, vs2, rfl, .inr ⟨k1, k3, fun ln => h3 H2 μ2 st2 t2 ln _ ⟨?_, _, wk_zip, fun D hD => ⟨⟨k1, k3⟩, k2, k4⟩⟩⟩⟩
        rw [List.length_map, List.length_zip, k2.length]
        exact Nat.le_trans (Nat.min_le_left _ _) (ln.tup _ _ k1)
  · cases eI
theorem iEnumI (st : Site RX C call m X W) {elts : List Expr} {kk : Nat} {tpos : Pos} {a : E} {ps : PL} {p pos : Pos} (hg : isG m "enumerate" = true) (ha : PE X (pE m a ps).1 (tE RX X.K W (evE C call a))) : PI X (.Tuple elts kk tpos) (.Call (.Name "enumerate" p) [(pE m a ps).1] [] pos) (iI RX X.K W (evI C call (.enum a))) := by
  obtain ⟨g1, g2, g3⟩ := st.g hg
  refine (pi_enumA g1 (st.b (by decide +kernel)) (pa_cons ha pa_nil (star_cons _ m a ps [])) (star_cons _ m a ps [])).lens.imp fun σ H R hq => ?_
  obtain ⟨ρ, μ, S, t, r, h⟩ := hq
  rw [evI] at h
  refine seqE .refl t r h fun x S1 H1 μ1 v st1 s1 t1 r1 hx h1 => ?_
  obtain ⟨ds, eI, h3⟩ := h1.opt
  unfold enumd at eI
  split at eI
  · rename_i x1
    cases eI
    cases (show RD X.K H1 μ1 (.tup x1) v from hx) with
    | @tup a1 vs1 _ k1 k2 =>
      refine ⟨a1, vs1, rfl, k1, fun ln => h3 H1 μ1 st1 t1 ln _ ⟨?_, _, wk_enum, fun D hD => ⟨k1, k2⟩⟩⟩
      rw [List.length_map, List.length_zipIdx, k2.length]
      exact ln.tup _ _ k1
  · cases eI
end
end Q
end
section
-- Snd13
set_option Elab.async false
set_option linter.all false
set_option maxRecDepth 100000
set_option maxHeartbeats 4000000
namespace Q
open PySem PySem.Spec PyProof.Rows L2

section
variable {K : PySem.W.Frag} {H : Hp} {μ : List Addr} {S : Store}
theorem StepD.put {D : Addr} {vs ws : List L2.V} (h : H D = some (.lst vs)) : StepD (some D) H μ (upd H D (.lst ws)) μ := by
  refine ⟨fun a o e _ n => ?_, im_upd (imm_lst h), fun a e => ?_, [], by simp, by simp⟩
  · rw [upd_ne (fun z => n (by rw [z]))]; exact e
  · by_cases z : a = D
    · rw [z, upd_same] at e; cases e
    · rw [upd_ne z] at e; exact e
theorem SR.put (t : SR K H μ S) {D : Addr} {vs ws : List L2.V} (h : H D = some (.lst vs)) (n : D ∉ μ) : SR K (upd H D (.lst ws)) μ S :=
  ⟨t.len, t.nd, fun k c a e1 e2 => by
    obtain ⟨o, h1, h2⟩ := t.cell k c a e1 e2
    have ne : a ≠ D := fun z => n (by rw [← z]; exact List.mem_of_getElem? e2)
    exact ⟨o, by rw [upd_ne ne]; exact h1, h2.mono (StepD.put (μ := μ) h).tups fun _ _ z => z⟩⟩
/-- a list that nobody holds comes into the store; the ways from ahead -/
theorem settle2 {RX : RXT} {E : XK} {β : Type} {H0 : Hp} {μ0 : List Addr} {Hb : Hp} {r : R} {v : L2.V} {g : D → Store → Res β} {p : β → Store → Hp → List Addr → Prop} (t : SR K H μ S) (hr : RR K Hb H μ r v) (h : Out RX K E H0 μ0 (Q.settle r S g) p) :
    ∃ d S' μ', (∀ Dx H0' μ0', StepD Dx H0' μ0' H μ → (∀ a, Hb a = none → H0' a = none) → StepD Dx H0' μ0' H μ') ∧ SR K H μ' S' ∧ RD K H μ' d v ∧ (∀ (n : Nat) a, μ[n]? = some a → μ'[n]? = some a) ∧ (∀ b ∈ μ', b ∈ μ ∨ Hb b = none) ∧ Out RX K E H0 μ0 (g d S') p := by
  cases r with
  | v d => exact ⟨d, S, μ, fun _ _ _ z _ => z, t, hr, fun _ _ z => z, fun _ z => .inl z, h⟩
  | t ds =>
    obtain ⟨a, vs, e, h0, h1, h2, h3⟩ := hr
    subst e
    have mono : ∀ (n : Nat) b, μ[n]? = some b → (μ ++ [a])[n]? = some b := fun n b z => by
      rw [List.getElem?_append_left (List.getElem?_eq_some_iff.mp z).1]; exact z
    refine ⟨_, _, μ ++ [a], fun Dx H0' μ0' st hb => ?_, t.alloc (c := .lst ds) h1 h2 ⟨vs, rfl, h3⟩, .ref ?_, mono, fun b z => ?_, h⟩
    · obtain ⟨ν, e, hν⟩ := st.pre
      refine ⟨st.keepD, st.tups, st.live, ν ++ [a], by rw [e, List.append_assoc], fun b hb' => ?_⟩
      rcases List.mem_append.mp hb' with z | z
      · exact hν b z
      · rw [List.mem_singleton] at z; subst z; exact hb _ h0
    · rw [← t.len, List.getElem?_append_right (Nat.le_refl _), Nat.sub_self]; rfl
    · rcases List.mem_append.mp z with z | z
      · exact .inl z
      · rw [List.mem_singleton] at z; subst z; exact .inr h0
end
section
variable {RX : RXT} {C : Ctx} {call : Nat → List D → Store → Res R} {m : Nm} {X : Cx} {W : WX}
theorem Site.blk (st : Site RX C call m X W) (sc : Scope) (s : Shared) (H : Hp) (Ce : Addr) (cl : List (Str × Addr)) (fp : List Addr) : Site RX C call (m.in sc) (X.blk s H sc (compEnvC sc cl Ce X.env) fp) fun _ _ _ _ => False := by
  refine ⟨?_, st.nN, st.nd, st.cs, st.tb, st.calm, fun x h => h, takes0, st.bt, st.gl, st.un, st.gd, (fun z => by cases z), (fun nm I e => ⟨(st.kl nm I e).ex⟩), (fun z => by cases z), st.fv, st.fv', fun f x np nd e => ?_⟩
  · show relS sc X.env.scope = relS sc m.sc
    rw [st.sc]
  · exact st.fn f x np nd e
theorem own_ix (m : Nm) (t : T) : (ownOf m t).map (·.2) = t.slots := by
  unfold ownOf
  rw [List.map_map]
  exact List.map_id _
def stepOf (C : Ctx) (call : Nat → List D → Store → Res R) (elt : E) (tg : T) (c : Eo) (ρ : Env) : D → Store → Res (Option D) := fun d S => (asT C call tg d (Q.wipe ρ tg.slots) S).bind fun ρ S => (evC C call c ρ S).bind fun k S =>
        if k then (evE C call elt ρ S).bind fun y S => Q.settle y S fun d S => .ok (some d) S else .ok none S
theorem sLc_read (st : Site RX C call m X W) {elt : E} {tg : T} {it : It} {c : Eo} {k0 : Nat} (hc : X.calm = X.calm) {σ : L2.St} {H : Hp} {Q : VK} (hq : tE RX X.K W (evE C call (.lc elt tg it c k0)) σ H Q) :
    tLc (iI RX X.K W (evI C call it)) (tG RX X.K tg.slots (asT C call tg)) (tT RX X.K (fun _ _ _ _ => False) (evC C call c)) (tE RX X.K (fun _ _ _ _ => False) (evE C call elt)) ((ownOf m tg).map (·.2)) σ H Q := by
  obtain ⟨ρ, μ, S, t, r, h⟩ := hq
  rw [evE] at h
  rw [own_ix]
  refine ⟨ρ, μ, S, t, r, (Out.bind .refl h).imp fun I S1 H1 μ1 s1 t1 ⟨_, _, _, h1⟩ ln J hJ D hD => ?_⟩
  have h2 : Out RX X.K (fun _ _ _ => False) H μ (over (stepOf C call elt tg c ρ) I S1) fun ds S' H' μ' => Out RX X.K (fun c d H' => W c d σ H') H μ (Res.ok (R.t ds) S') fun r S' H' μ' => ∀ v, RR X.K H H' μ' r v → Q v H' := Out.calm h1
  have hD0 : H D = none := s1.live D hD
  refine lc_snd (W := fun _ _ _ _ => False) s1 t1 (r.step s1) ln hJ hD h2 ?turn ?done
  case done =>
    intro ds S' H' μ' avs st' t' hd' nd' ra h3
    exact h3 H' μ' st' t' _ ⟨D, avs, rfl, hD0, hd', nd', ra⟩
  case turn =>
    intro d x H2 μ2 S2 acc avs q st2 t2 r2 rd hd nd ra hz h3 N hN
    unfold stepOf at h3
    rw [Res.assoc] at h3
    refine ⟨d, _root_.Q.wipe ρ tg.slots, μ2, S2, rd, t2, r2.wipe _, (Out.bind st2 h3).imp fun ρ3 S3 H3 μ3 s3 t3 ⟨st3, _, _, h4⟩ σ3 re3 ss3 => ⟨?_, ?_⟩⟩
    · rw [ss3.wipe, wipe_wipe]
    · rw [Res.assoc] at h4
      refine seqT (W := fun _ _ _ _ => False) st3 t3 re3 h4 fun k S4 H4 μ4 st4 s4 t4 r4 h5 => ?_
      have hd4 : H4 D = some (.lst avs) := (s3.trans s4).keep D _ hd nd
      have nd4 : D ∉ μ4 := (s3.trans s4).notin hd nd
      have s24 := s3.trans s4
      cases k with
      | false => exact hN none H4 μ4 S4 avs st4 s24.weak t4 (r2.step s24) hd4 nd4 (ra.step s24) h5
      | true =>
        have h5 : Out RX X.K (fun _ _ _ => False) H μ (((evE C call elt ρ3 S4).bind fun y S => _root_.Q.settle y S fun d S => .ok (some d) S).bind q) _ := h5
        rw [Res.assoc] at h5
        refine seqE (W := fun _ _ _ _ => False) st4 t4 r4 h5 fun y S5 H5 μ5 v st5 s5 t5 r5 hy h6 => ?_
        rw [settle_bind] at h6
        obtain ⟨d6, S6, μ6, way, t6, rd6, hix, hmem, h7⟩ := settle2 t5 hy h6
        have hd5 : H5 D = some (.lst avs) := s5.keep D _ hd4 nd4
        have nd5 : D ∉ μ5 := s5.notin hd4 nd4
        have nd6 : D ∉ μ6 := fun z => by
          rcases hmem D z with z | z
          · exact nd5 z
          · rw [hd4] at z; cases z
        have s26 : StepD (some D) H2 μ2 H5 μ6 := way _ _ _ (s24.trans s5).weak s24.live
        have st6 : Step H μ H5 μ6 := way _ _ _ st5 st4.live
        have sp : StepD (some D) H5 μ6 (upd H5 D (.lst (avs ++ [v]))) μ6 := StepD.put hd5
        refine ⟨avs, hd5, by rw [← ra.length]; exact hz, hN (some d6) _ μ6 S6 (avs ++ [v]) ((st6.weak.trans sp).drop fun d e => by cases e; exact hD0) (s26.trans sp) (t6.put hd5 nd6) ?_ upd_same nd6 ?_ h7⟩
        · exact r2.step (s26.trans sp)
        · exact ((ra.step s26).append (.cons rd6 .nil)).step sp
theorem sLc (st : Site RX C call m X W) {elt : E} {tg : T} {it : It} {c : Eo} {sc : Scope} {k0 : Nat} {iter te el : Expr} {ifs : List Expr} {p : Pos} (hi : PI X te iter (iI RX X.K W (evI C call it))) (hf : ∀ env x, foldedSetIterable iter env x = pure x) (ok : blkC m.N m.sc sc (ownOf m tg) = true)
    (hg : ∀ X', X'.K = X.K → Site RX C call (m.in sc) X' (fun _ _ _ _ => False) → PG X' te (tG RX X.K tg.slots (asT C call tg)))
    (hc : ∀ X', X'.K = X.K → Site RX C call (m.in sc) X' (fun _ _ _ _ => False) → PTs X' ifs (tT RX X.K (fun _ _ _ _ => False) (evC C call c)))
    (he : ∀ X', X'.K = X.K → Site RX C call (m.in sc) X' (fun _ _ _ _ => False) → PE X' el (tE RX X.K (fun _ _ _ _ => False) (evE C call elt))) :
    Snd RX X W (.ListComp el [⟨te, iter, ifs, 0⟩] sc p) (evE C call (.lc elt tg it c k0)) := by
  refine both ((pe_lc st.calm (by rw [st.nN]; exact st.nd) hi (own := ownOf m tg) (blkOk_by (by rw [st.nN, st.sc]; exact ok)) (fun s H Ce cl fp => hg (X.blk s H sc (compEnvC sc cl Ce X.env) fp) rfl (st.blk sc s H Ce cl fp)) (fun s H Ce cl fp => hc (X.blk s H sc (compEnvC sc cl Ce X.env) fp) rfl (st.blk sc s H Ce cl fp)) (fun s H Ce cl fp => he (X.blk s H sc (compEnvC sc cl Ce X.env) fp) rfl (st.blk sc s H Ce cl fp)) (fun x => hf X.env x)).imp fun σ H Q hq => ?_) (by intro _; rfl)
  exact sLc_read st rfl hq
end
end Q
end
section
-- SndA
set_option Elab.async false
set_option linter.all false
set_option maxRecDepth 100000
set_option maxHeartbeats 4000000
namespace Q
open PySem PySem.Spec PyProof.Rows L2
/-! ### what is never written -/
section
variable {X : Cx} {pins : List (Addr × Obj)} {σ : L2.St} {H : Hp} {s : Shared}
theorem _root_.L2.Inv.freeze {a : Addr} {u : HO} {o : Obj} (I : Inv X pins σ H s) (h : H a = some u) (mu : Mut (some u)) (e : s.heap.get? a = some o) (k : ∀ H', ObjOk X.prog X.w H s.heap a u → ObjOk X.prog X.w H' s.heap a u) : Inv X pins σ (upd H a (.frz o u)) s := by
  have := I.write (x := a) (e := a) (h' := s.heap) (o := .frz o u) (t' := s.toks) (by rw [h]; exact mu) (.inl rfl) (fun b w _ z => z) ⟨o, e⟩ ⟨e, k _ (I.hok a u h)⟩
  exact this
theorem upd_frz {H : Hp} {p : Addr} {o : HO} (hp : H p = none) : ∀ a u, H a = some u → upd H p o a = some u := grow_upd hp
end
section
variable {RX : RXT} {C : Ctx} {call : Nat → List D → Store → Res R} {m : Nm} {X : Cx} {W : WX}
theorem sFlst {es : Es} {l : List Expr} {p : Pos} (ha : PA X l (tA RX X.K W (evEs C call es))) (hz : es.len ≤ 5000) : Snd RX X W (.List l p) (evE C call (.flst es)) := by
  refine both ⟨fun pins s σ H Q I hq => ?_⟩ (by intro _; rfl)
  obtain ⟨ρ, μ, S, t, r, h⟩ := hq
  rw [evE] at h
  refine thn ((pe_lst ha).run pins s σ H (fun v H' => ∃ p vs H1, v = .ref p ∧ H1 p = none ∧ H' = upd H1 p (.lst vs) ∧ ∀ o, Q (.ref p) (upd H1 p (.frz o (.lst vs)))) I ?_) fun u s' ⟨v, H', I', rv, p, vs, H1, ev, hp, eH, q⟩ => ?_
  · refine seqA .refl t r h fun ds S1 H1 μ1 vs st1 s1 t1 r1 hv e h1 => ⟨?_, fun q hq => ⟨q, vs, H1, rfl, hq, rfl, fun o => h1 _ μ1 (st1.new hq) (t1.new hq) _ (.fz (.inl ⟨o, upd_same⟩) (hv.new hq))⟩⟩
    rw [← hv.length, evEs_len es ρ S ds S1 e, sizeLine_eq]
    omega
  · subst ev eH
    have hok := I'.hok p _ upd_same
    obtain ⟨z, its, n, rr, g⟩ := hok
    have J := I'.freeze (a := p) (u := .lst vs) upd_same True.intro g (fun H' x => x)
    rw [upd_upd] at J
    exact ⟨.ref p, _, J, rv, q _⟩
theorem sFdct {p : Pos} : Snd RX X W (.Dict [] [] p) (evE C call .fdct) := by
  refine both ⟨fun pins s σ H Q I hq => ?_⟩ (by intro _; rfl)
  obtain ⟨ρ, μ, S, t, r, h⟩ := hq
  rw [evE] at h
  refine thn ((pe_dnewK (X := X) (pos := p)).run pins s σ H (fun v H' => ∃ p H1, v = .ref p ∧ H1 p = none ∧ H' = upd H1 p (.dK []) ∧ ∀ o, Q (.ref p) (upd H1 p (.frz o (.dK [])))) I ?_) fun u s' ⟨v, H', I', rv, p, H1, ev, hp, eH, q⟩ => ?_
  · exact fun q hq => ⟨q, H, rfl, hq, rfl, fun o => h _ μ (StepD.grow (grow_upd hq)) (t.new hq) _ (.fd (.inl ⟨o, upd_same⟩))⟩
  · subst ev eH
    have hok := I'.hok p _ upd_same
    obtain ⟨z, z2, vs, kv, o, es, ep, g, rest⟩ := hok
    have J := I'.freeze (a := p) (u := .dK []) upd_same True.intro g (fun H' x => x)
    rw [upd_upd] at J
    exact ⟨.ref p, _, J, rv, q _⟩
end
section
variable {RX : RXT} {C : Ctx} {call : Nat → List D → Store → Res R} {m : Nm} {X : Cx} {W : WX}
theorem sFlsc (st : Site RX C call m X W) {a : E} {ps : PL} {p pos : Pos} (hg : isG m "list" = true) (ha : Snd RX X W (pE m a ps).1 (evE C call a)) : Snd RX X W (.Call (.Name "list" p) [(pE m a ps).1] [] pos) (evE C call (.flsc a)) := by
  refine both ⟨fun pins s σ H Q I hq => ?_⟩ (by intro _; rfl)
  obtain ⟨ρ, μ, S, t, r, h⟩ := hq
  rw [evE] at h
  refine thn ((pe_bi1 (p := p) (pos := pos) st .list call_list_of hg (pa_cons ha.1 pa_nil (star_cons _ m a ps [])) (star_cons _ m a ps [])).run pins s σ H (fun v H' => ∃ p vs H1, v = .ref p ∧ H1 p = none ∧ H' = upd H1 p (.lst vs) ∧ ∀ o, Q (.ref p) (upd H1 p (.frz o (.lst vs)))) I ?_) fun u s' ⟨v, H', I', rv, p, vs, H1, ev, hp, eH, q⟩ => ?_
  · refine seqE .refl t r h fun x S1 H1 μ1 v st1 s1 t1 r1 hx h1 => ?_
    obtain ⟨⟨b', ds⟩, e, h2⟩ := h1.opt
    obtain ⟨q, vs, e1, g1, g2⟩ := seq_any t1 hx e
    subst e1
    exact ⟨q, vs, rfl, g1, fun l hl => ⟨l, vs, H1, rfl, hl, rfl, fun o => h2 _ μ1 (st1.new hl) (t1.new hl) _ (.fz (.inl ⟨o, upd_same⟩) (g2.new hl))⟩⟩
  · subst ev eH
    obtain ⟨z, its, n, rr, g⟩ := I'.hok p _ upd_same
    have J := I'.freeze (a := p) (u := .lst vs) upd_same True.intro g (fun H' x => x)
    rw [upd_upd] at J
    exact ⟨.ref p, _, J, rv, q _⟩
end
/-! ### a call with nothing but the tables -/
theorem tblsOk_app : ∀ {T S : Store}, tblsOk T S = true → ∃ r, S = T ++ r ∧ ∀ c ∈ T, ∃ q, c = .tbl q
  | [], S, _ => ⟨S, rfl, fun _ h => by simp at h⟩
  | .tbl q :: T, [], h => by cases h
  | .tbl q :: T, .tbl p :: S, h => by
    have h : (q == p && tblsOk T S) = true := h
    rw [Bool.and_eq_true] at h
    obtain ⟨r, e, k⟩ := tblsOk_app h.2
    have e2 := eq_of_beq h.1
    subst e2 e
    exact ⟨r, rfl, fun c hc => by
      rcases List.mem_cons.mp hc with z | z
      · exact ⟨q, z⟩
      · exact k c z⟩
  | .tbl q :: T, .lst _ :: S, h => by cases h
  | .tbl q :: T, .dct _ :: S, h => by cases h
  | .tbl q :: T, .ins _ _ :: S, h => by cases h
  | .lst _ :: T, _, h => by cases h
  | .dct _ :: T, _, h => by cases h
  | .ins _ _ :: T, _, h => by cases h
section
variable {K : PySem.W.Frag} {H H' H2 : Hp} {μ μ2 : List Addr} {S S2 T : Store}
theorem SR.part (t : SR K H μ S) (h : tblsOk T S = true) : SR K H (μ.take T.length) T := by
  obtain ⟨r, e, k⟩ := tblsOk_app h
  subst e
  refine ⟨?_, t.nd.sublist (List.take_sublist _ _), fun n c a e1 e2 => ?_⟩
  · have := t.len
    rw [List.length_append] at this
    rw [List.length_take]
    omega
  · have hn := (List.getElem?_eq_some_iff.mp e1).1
    rw [List.getElem?_take_of_lt hn] at e2
    obtain ⟨o, h1, h2⟩ := t.cell n c a (by rw [List.getElem?_append_left hn]; exact e1) e2
    obtain ⟨q, rfl⟩ := k c (List.mem_of_getElem? e1)
    exact ⟨o, h1, h2⟩
/-- behind such a call -/
theorem back {nt : Nat} (t : SR K H μ S) (h : tblsOk T S = true) (st : Step H (μ.take T.length) H2 μ2) (t2 : SR K H2 μ2 S2) (h2 : tblsOk T S2 = true) : Step H μ H2 μ ∧ SR K H2 μ S := by
  obtain ⟨r, e, k⟩ := tblsOk_app h
  obtain ⟨r2, e2, _⟩ := tblsOk_app h2
  subst e e2
  have nin : ∀ a, a ∉ μ → a ∉ μ.take T.length := fun a n z => n (List.mem_of_mem_take z)
  obtain ⟨ν, eν, hν⟩ := st.pre
  refine ⟨StepD.mk' (fun a o e n => st.keep a o e (nin a n)) st.tups st.live ⟨[], by simp, by simp⟩, t.len, t.nd, fun n c a e1 e2 => ?_⟩
  by_cases hn : n < T.length
  · have hm : (μ.take T.length)[n]? = some a := by rw [List.getElem?_take_of_lt hn]; exact e2
    have hm2 : μ2[n]? = some a := by
      rw [eν, List.getElem?_append_left (List.getElem?_eq_some_iff.mp hm).1]
      exact hm
    rw [List.getElem?_append_left hn] at e1
    obtain ⟨o, h1, h3⟩ := t2.cell n c a (by rw [List.getElem?_append_left hn]; exact e1) hm2
    obtain ⟨q, rfl⟩ := k c (List.mem_of_getElem? e1)
    exact ⟨o, h1, h3⟩
  · obtain ⟨o, h1, h3⟩ := t.cell n c a e1 e2
    have na : a ∉ μ.take T.length := fun z => by
      obtain ⟨j, hj, e⟩ := List.getElem_of_mem z
      rw [List.length_take] at hj
      have e3 : μ[j]? = some a := by
        rw [← e, List.getElem_take]
        exact List.getElem?_eq_getElem _
      obtain ⟨q1, q2⟩ := List.getElem?_eq_some_iff.mp e2
      obtain ⟨q3, q4⟩ := List.getElem?_eq_some_iff.mp e3
      have := (List.getElem_inj t.nd).mp (q2.trans q4.symm)
      omega
    exact ⟨o, st.keep a o h1 na, h3.mono st.tups fun _ _ z => z⟩
end
section
variable {RX : RXT} {C : Ctx} {call : Nat → List D → Store → Res R} {m : Nm} {X : Cx} {W : WX}
/-- such a call's answers -/
theorem aside_out {K : PySem.W.Frag} {E : XK} {H : Hp} {μ : List Addr} {S : Store} {r : Res R} {p : R → Store → Hp → List Addr → Prop} (t : SR K H μ S) (ht : tblsOk C.tbls S = true) (h : Out RX K E H μ (aside C S r) p) (hp : ∀ a S' H' μ', Step H μ H' μ' → SR K H' μ' S' → p a S' H' μ' → p a S' H' μ') :
    Out RX K E H (μ.take C.tbls.length) r fun a S' H' μ' => ∀ v, RR K H H' μ' a v → RR K H H' μ a v ∧ Step H μ H' μ ∧ SR K H' μ S ∧ p a S H' μ := by
  cases r with
  | bad => exact h
  | err x S' =>
    intro H' μ' cls d st t' z
    have h : Out RX K E H μ (if tblsOk C.tbls S' = true then match x.val with
      | none => .err x S
      | some d => if lowD 0 66 d = true then .err x S else .bad
    else .bad) p := h
    split at h
    · rename_i h2
      obtain ⟨b1, b2⟩ := back (nt := 0) t ht st t' h2
      cases ev : x.val with
      | none =>
        rw [ev] at h
        exact h H' μ cls d b1 b2 (RX.mono K μ' μ x cls d H' (fun v e => by rw [ev] at e; cases e) z)
      | some d0 =>
        rw [ev] at h
        dsimp only at h
        split at h
        · rename_i hl
          exact h H' μ cls d b1 b2 (RX.mono K μ' μ x cls d H' (fun v e => by rw [ev] at e; cases e; exact hl) z)
        · exact h.elim
    · exact h.elim
  | ok a S' =>
    intro H' μ' st t' v hv
    have h : Out RX K E H μ (if tblsOk C.tbls S' = true then match a with
      | .v d => if lowD 0 66 d = true then .ok (.v d) S else .bad
      | .t ds => if ds.all (lowD 0 66) = true then .ok (.t ds) S else .bad
    else .bad) p := h
    split at h
    · rename_i h2
      obtain ⟨b1, b2⟩ := back (nt := 0) t ht st t' h2
      cases a with
      | v d =>
        dsimp only at h
        split at h
        · rename_i hl
          exact ⟨RD.free (μ := μ) 66 hv hl, b1, b2, h H' μ b1 b2⟩
        · exact h.elim
      | t ds =>
        dsimp only at h
        split at h
        · rename_i hl
          obtain ⟨q, vs, e, h0, h1, _, h3⟩ := hv
          exact ⟨⟨q, vs, e, h0, h1, not_in t h0, RDs.free (μ := μ) 66 h3 hl⟩, b1, b2, h H' μ b1 b2⟩
        · exact h.elim
    · exact h.elim
theorem sCallF (st : Site RX C call m X W) {f : Nat} {es : Es} {p pos : Pos} {ps : PL} (hk : kE m (.callF f es) = true) (ha : PA X (pEs m es ps).1 (tA RX X.K W (evEs C call es))) : Snd RX X W (.Call (.Name (fnOf m.fn f) p) (pEs m es ps).1 [] pos) (evE C call (.callF f es)) := by
  rw [kE, Bool.and_eq_true] at hk
  obtain ⟨h1, h2⟩ := hk
  split at h1
  case h_2 => cases h1
  rename_i x np nd e1
  rw [Bool.and_eq_true, Bool.and_eq_true] at h1
  obtain ⟨⟨h1, h4⟩, h5⟩ := h1
  obtain ⟨g1, g2, g3⟩ := st.g h1
  obtain ⟨F, fa, fd, pps, k, f1, f2, f3, f4, f5, f6, f7, f8⟩ := st.fn f x np nd e1
  obtain ⟨us, dvs, b1, b2, b3⟩ := f8 es.len (Nat.ble_eq.mp h4) (Nat.ble_eq.mp h5)
  have ex : fnOf m.fn f = x := by
    unfold fnOf
    rw [List.getD_eq_getElem?_getD, e1]
    rfl
  rw [ex]
  have go : PE X (.Call (.Name x p) (pEs m es ps).1 [] pos) (tCallSD (spC RX X.K call f) dvs (fun σ c d H => W c d σ H) (tA RX X.K W (evEs C call es))) := by
    cases es with
    | nil =>
      rw [pEs] at ha ⊢
      refine (pe_callG0 f6 f7 st.gd g1 f4 f5 b1 b2 (passAt st.tk) g2).imp fun σ H Q hq => ?_
      obtain ⟨ρ, μ, S, t, r0, h⟩ := hq
      rw [evEs] at h
      exact h H μ .refl t [] .nil
    | cons e r =>
      have e2 : (pEs m (.cons e r) ps).1 = (pE m e ps).1 :: (pEs m r (pE m e ps).2).1 := by rw [pEs]
      rw [e2] at ha ⊢
      exact pe_callG f6 f7 st.gd g1 f4 f5 b1 b2 (passAt st.tk) ha g2 (star_cons _ m e ps _) (star_plain _ _ m r _)
  · refine both (go.imp fun σ H Q hq => ?_) (by intro _; cases es <;> rfl)
    obtain ⟨ρ, μ, S, t, r0, h⟩ := hq
    rw [evE] at h
    refine seqA .refl t r0 h fun ds S1 H1 μ1 vs st1 s1 t1 r1 hv e h1 => ?_
    obtain ⟨ds', e3, h6⟩ := h1.opt
    have hl := evEs_len _ ρ S ds S1 e
    unfold fill at e3
    rw [f1] at e3
    dsimp only at e3
    split at e3
    case isFalse => cases e3
    cases e3
    rw [← hl] at b3
    split at h6
    case isFalse => exact h6.elim
    rename_i hlow
    rw [Bool.and_eq_true] at hlow
    refine ⟨_, μ1.take C.tbls.length, C.tbls, t1.part hlow.2, RDs.free 66 (hv.append (b3 H1 μ1)) hlow.1, ?_, ?_⟩
    · obtain ⟨ν, e⟩ := r1.pre
      exact ⟨[], by rw [e, ← st.tb, List.take_left, List.append_nil]⟩
    refine (aside_out t1 hlow.2 (Out.at st1 h6) fun _ _ _ _ _ _ z => z).imp fun a S2 H2 μ2 s2 t2 h7 v hv2 => ?_
    obtain ⟨q1, q2, q3, q4⟩ := h7 v hv2
    exact q4 v (q1.base st1.live)
theorem Site.f (st : Site RX C call m X W) {i : Nat} (h : isFv m i = true) : X.N[i]? = some (nmOf m.N i) ∧ Vis X.env.scope (nmOf m.N i) ∧ (nmOf m.N i == ("__debug__" : Str)) = false ∧ (nmOf m.N i == ("__classdict__" : Str)) = false ∧ RX.lp.cs.contains i = true := by
  unfold isFv at h
  rw [Bool.and_eq_true, Bool.and_eq_true, Bool.and_eq_true, Bool.and_eq_true] at h
  obtain ⟨⟨⟨⟨h1, h2⟩, h3⟩, h4⟩, h5⟩ := h
  refine ⟨by rw [st.nN]; exact nm_at (Nat.blt_eq.mp h1), ?_, (Bool.not_eq_true' _).mp h4, (Bool.not_eq_true' _).mp h5, by rw [st.cs]; exact h3⟩
  unfold Vis
  rw [st.sc]
  exact kindV_of h2
theorem sCalV (st : Site RX C call m X W) {i : Nat} {es : Es} {p pos : Pos} {ps : PL} (hk : kE m (.calv i es) = true) (ha : PA X (pEs m es ps).1 (tA RX X.K W (evEs C call es))) : Snd RX X W (.Call (.Name (nmOf m.N i) p) (pEs m es ps).1 [] pos) (evE C call (.calv i es)) := by
  rw [kE, Bool.and_eq_true, Bool.and_eq_true] at hk
  obtain ⟨⟨h1, h2⟩, h3⟩ := hk
  obtain ⟨i1, i2, i3, i4, i5⟩ := st.f h1
  cases es with
  | nil => cases h3
  | cons e r =>
    have e2 : (pEs m (.cons e r) ps).1 = (pE m e ps).1 :: (pEs m r (pE m e ps).2).1 := by rw [pEs]
    rw [e2] at ha ⊢
    refine both ((pe_callV (i := i) st.gd i1 i2 i4 (passAt st.tk) ha i3 (star_cons _ m e ps _) (star_plain _ _ m r _)).imp fun σ H Q hq => ?_) (by intro _; rfl)
    obtain ⟨ρ, μ, S, t, r0, h⟩ := hq
    rw [evE] at h
    split at h
    case h_2 => exact h.elim
    rename_i f ef
    obtain ⟨v, hσ, hv⟩ := r0.clo i _ i5 ef
    obtain ⟨x, np, nd, a, e1, ev, em⟩ := st.fv f v hv
    subst ev
    obtain ⟨F, fa, fd, pps, k, f1, f2, f3, f4, f5, f6, f7, f8⟩ := st.fn f x np nd e1
    rw [em] at f4
    cases f4
    obtain ⟨F', eF, h⟩ := h.opt
    rw [f1] at eF
    cases eF
    split at h
    case isFalse => exact h.elim
    rename_i hb
    rw [Bool.and_eq_true, f2, f3] at hb
    obtain ⟨us, dvs, b1, b2, b3⟩ := f8 (Es.cons e r).len (Nat.ble_eq.mp hb.1) (Nat.ble_eq.mp hb.2)
    refine ⟨k, a, fd, pps, _, dvs, us, hσ, f6, f7, f5, b1, b2, ?_⟩
    refine seqA .refl t r0 h fun ds S1 H1 μ1 vs st1 s1 t1 r1 hv e h1 => ?_
    obtain ⟨ds', e3, h6⟩ := h1.opt
    have hl := evEs_len _ ρ S ds S1 e
    unfold fill at e3
    rw [f1] at e3
    dsimp only at e3
    split at e3
    case isFalse => cases e3
    cases e3
    rw [← hl] at b3
    refine ⟨_, μ1, S1, t1, hv.append (b3 H1 μ1), r1.pre, (Out.at st1 h6).imp fun a S2 H2 μ2 s2 t2 h7 v hv2 => h7 v (hv2.base st1.live)⟩
/-- what is new is frozen -/
theorem frz_tE {K : PySem.W.Frag} {f : Env → Store → Res R} {σ : L2.St} {H : Hp} {Q : VK} (hq : tE RX K W (fun ρ S => (f ρ S).bind frzd) σ H Q) : tE RX K W f σ H fun v H' => Q v H' ∨ ∃ p vs, v = .ref p ∧ H' p = some (.lst vs) ∧ ∀ o, Q (.ref p) (upd H' p (.frz o (.lst vs))) := by
  obtain ⟨ρ, μ, S, t, r, h⟩ := hq
  refine seqE .refl t r h fun x S1 H1 μ1 v st1 s1 t1 r1 hx h1 => ?_
  cases x with
  | v d => exact .inl (h1 H1 μ1 st1 t1 v hx)
  | t ds =>
    obtain ⟨q, vs, e, h0, h2, h3, h4⟩ := hx
    refine .inr ⟨q, vs, e, h2, fun o => ?_⟩
    have im : Im H1 (upd H1 q (.frz o (.lst vs))) := im_upd (imm_lst h2)
    have st2 : Step H μ (upd H1 q (.frz o (.lst vs))) μ1 := StepD.mk' (fun a u e n => by
      rw [upd_ne (ne_of_none e h0)]
      exact st1.keep a u e n) (fun a u z => im a u (st1.tups a u z)) (fun a z => by
        by_cases e : a = q
        · rw [e]; exact h0
        · rw [upd_ne e] at z
          exact st1.live a z) st1.pre
    have t2 : SR K (upd H1 q (.frz o (.lst vs))) μ1 S1 := ⟨t1.len, t1.nd, fun n c a e1 e2 => by
      obtain ⟨u, g1, g2⟩ := t1.cell n c a e1 e2
      have na : a ≠ q := fun z => h3 (z ▸ List.mem_of_getElem? e2)
      exact ⟨u, by rw [upd_ne na]; exact g1, g2.mono im fun _ _ z => z⟩⟩
    exact h1 _ μ1 st2 t2 _ (.fz (.inl ⟨o, upd_same⟩) (h4.mono im fun _ _ z => z))
theorem frzPE {f : Env → Store → Res R} {ee : Expr} (ha : PE X ee (tE RX X.K W f)) : PE X ee (tE RX X.K W fun ρ S => (f ρ S).bind frzd) := by
  refine ⟨fun pins s σ H Q I hq => ?_⟩
  refine thn (ha.run pins s σ H _ I (frz_tE hq)) fun u s' ⟨v, H', I', rv, z⟩ => ?_
  rcases z with z | ⟨p, vs, ev, g, z⟩
  · exact ⟨v, H', I', rv, z⟩
  · subst ev
    obtain ⟨y, its, n, rr, g2⟩ := I'.hok p _ g
    exact ⟨.ref p, _, I'.freeze (a := p) (u := .lst vs) g True.intro g2 (fun H' x => x), rv, z _⟩
theorem flc_eq {elt : E} {tg : T} {it : It} {c : Eo} {k : Nat} : evE C call (.flc elt tg it c k) = fun ρ S => (evE C call (.lc elt tg it c k) ρ S).bind frzd := by
  funext ρ S
  rw [evE, evE, Res.assoc]
  congr 1
  funext x S1
  rw [Res.assoc]
  rfl
theorem sFbin {o : Operator} {a b : E} {ea eb : Expr} {p : Pos} (ha : Snd RX X W ea (evE C call a)) (hb : Snd RX X W eb (evE C call b)) : Snd RX X W (.BinOp ea o eb p) (evE C call (.fbin o a b)) := by
  have z := both (frzPE (sBin (p := p) (o := o) ha hb).1) (by intro _; rfl)
  have e : (fun ρ S => (evE C call (.bin o a b) ρ S).bind frzd) = evE C call (.fbin o a b) := by
    funext ρ S
    rw [evE, evE, Res.assoc]
    congr 1
    funext x S1
    rw [Res.assoc]
  rw [← e]
  exact z
theorem sFslc {a : E} {lo hi : Eo} {ea : Expr} {l h : Option Expr} {p p1 : Pos} (ha : Snd RX X W ea (evE C call a)) (hl : PO X l (tO RX X.K W (evB C call lo))) (hh : PO X h (tO RX X.K W (evB C call hi))) : Snd RX X W (.Subscript ea (.Slice l h none p1) p) (evE C call (.fslc a lo hi)) := by
  have z := both (frzPE (sSlc (p := p) (p2 := p1) ha hl hh).1) (by intro _; rfl)
  have e : (fun ρ S => (evE C call (.slc a lo hi) ρ S).bind frzd) = evE C call (.fslc a lo hi) := by
    funext ρ S
    rw [evE, evE, Res.assoc]
    congr 1
    funext x S1
    rw [Res.assoc]
    congr 1
    funext y S2
    rw [Res.assoc]
  rw [← e]
  exact z
theorem sFcall (st : Site RX C call m X W) {f : Nat} {es : Es} {p pos : Pos} {ps : PL} (hk : kE m (.callF f es) = true) (ha : PA X (pEs m es ps).1 (tA RX X.K W (evEs C call es))) : Snd RX X W (.Call (.Name (fnOf m.fn f) p) (pEs m es ps).1 [] pos) (evE C call (.fcall f es)) := by
  have z := both (frzPE (sCallF (p := p) (pos := pos) st hk ha).1) (by intro _; cases es <;> rfl)
  have e : (fun ρ S => (evE C call (.callF f es) ρ S).bind frzd) = evE C call (.fcall f es) := by
    funext ρ S
    rw [evE, evE, Res.assoc]
    congr 1
    funext ds S1
    cases fill C f ds with
    | none => rfl
    | some ds =>
      rw [opt_some, opt_some]
      split <;> rfl
  rw [← e]
  exact z
end
end Q
end
section
-- SndI
set_option Elab.async false
set_option linter.all false
set_option maxRecDepth 100000
set_option maxHeartbeats 4000000
namespace Q
open PySem PySem.Spec PyProof.Rows L2
/-! ### instances -/
section
variable {K : PySem.W.Frag} {H H' : Hp} {μ μ' : List Addr} {S : Store}
theorem RFs.lookup {fs : List (Str × D)} {gs : List (Str × L2.V)} {f : Str} {d : D} (h : RFs K H μ fs gs) (e : fs.lookup f = some d) : ∃ v, gs.lookup f = some v ∧ RD K H μ d v := by
  induction h with
  | nil => cases e
  | @cons p q _ _ r _ ih =>
    obtain ⟨a, b⟩ := p
    obtain ⟨a', b'⟩ := q
    obtain ⟨r1, r2⟩ := r
    dsimp only at r1 r2
    subst r1
    rw [List.lookup_cons] at e ⊢
    cases hk : f == a with
    | true => rw [hk] at e; cases e; exact ⟨b', rfl, r2⟩
    | false => rw [hk] at e; exact ih e
theorem RFs.none {fs : List (Str × D)} {gs : List (Str × L2.V)} {f : Str} (h : RFs K H μ fs gs) (e : (fs.lookup f).isNone = true) : gs.lookup f = Option.none := by
  induction h with
  | nil => rfl
  | @cons p q _ _ r _ ih =>
    obtain ⟨a, b⟩ := p
    obtain ⟨a', b'⟩ := q
    obtain ⟨r1, r2⟩ := r
    dsimp only at r1 r2
    subst r1
    rw [List.lookup_cons] at e ⊢
    cases hk : f == a with
    | true => rw [hk] at e; cases e
    | false => rw [hk] at e; exact ih e
theorem RFs.put {fs : List (Str × D)} {gs : List (Str × L2.V)} {f : Str} {d : D} {v : L2.V} (h : RFs K H μ fs gs) (r : RD K H μ d v) : RFs K H μ (putD f d fs) (putF f v gs) := by
  induction h with
  | nil => exact .cons ⟨rfl, r⟩ .nil
  | @cons p q _ _ r0 h ih =>
    obtain ⟨a, b⟩ := p
    obtain ⟨a', b'⟩ := q
    obtain ⟨r1, r2⟩ := r0
    dsimp only at r1 r2
    subst r1
    unfold putD putF
    by_cases hk : a = f
    · rw [if_pos hk, if_pos hk]
      exact .cons ⟨rfl, r⟩ h
    · rw [if_neg hk, if_neg hk]
      exact .cons ⟨rfl, r2⟩ ih
theorem RFs.len {fs : List (Str × D)} {gs : List (Str × L2.V)} (h : RFs K H μ fs gs) : fs.length = gs.length := PySem.Paired.length h
theorem imm_ins {a : Addr} {Ca dx : Addr} {gs : List (Str × L2.V)} (h : H a = some (.ins Ca dx gs)) : ∀ u, ¬ Imm H a u := fun u z => by
  rcases z with ⟨o, z⟩ | ⟨⟨ys, e⟩, z⟩
  · rw [h] at z; cases z
  · subst e; rw [h] at z; cases z
/-- an instance in the heap -/
theorem ins_at {Hb : Hp} {x : R} {v : L2.V} {n : Nat} {nm : Str} {fs : List (Str × D)} (t : SR K H μ S) (hx : RR K Hb H μ x v) (e : insOf S x = some (n, nm, fs)) :
    x = .v (.ref n) ∧ S[n]? = some (.ins nm fs) ∧ ∃ a Ca dx gs, v = .ref a ∧ μ[n]? = some a ∧ H a = some (.ins Ca dx gs) ∧ PySem.W.nsIn K mainGlobals nm = some (some (.ref Ca)) ∧ RFs K H μ fs gs := by
  unfold insOf at e
  split at e
  · rename_i m
    split at e
    · rename_i nm' fs' hs
      cases e
      cases (show RD K H μ (.ref n) v from hx) with
      | @ref _ a hm =>
        obtain ⟨o, h1, Ca, dx, gs, h2, h3, h4⟩ := t.cell n _ _ hs hm
        subst h2
        exact ⟨rfl, hs, a, Ca, dx, gs, rfl, hm, h1, h3, h4⟩
    · cases e
  · cases e
end
section
variable {RX : RXT} {C : Ctx} {call : Nat → List D → Store → Res R} {m : Nm} {X : Cx} {W : WX}
theorem base_of {o : E} {f : Str} {ps : PL} (hb : notCall o = true) : attributeBase (pE m o ps).1 f X.env (eval (pE m o ps).1 X.env) = eval (pE m o ps).1 X.env := by
  cases o <;> first | rfl | cases hb
theorem sFld (st : Site RX C call m X W) {o : E} {f : Str} {ps : PL} {p : Pos} (hb : notCall o = true) (ho : Snd RX X W (pE m o ps).1 (evE C call o)) : Snd RX X W (.Attribute (pE m o ps).1 f p) (evE C call (.fld o f)) := by
  refine both ((pe_fld ho.1 (base_of hb)).imp fun σ H Q hq => ?_) (by intro _; rfl)
  obtain ⟨ρ, μ, S, t, r, h⟩ := hq
  rw [evE] at h
  refine seqE .refl t r h fun x S1 H1 μ1 v st1 s1 t1 r1 hx h1 => ?_
  obtain ⟨⟨n, nm, fs⟩, e1, h1⟩ := h1.opt
  obtain ⟨I, e2, h1⟩ := h1.opt
  split at h1
  case isFalse => exact h1.elim
  rename_i hf
  obtain ⟨d, e3, h1⟩ := h1.opt
  obtain ⟨_, _, a, Ca, dx, gs, g1, g2, g3, g4, g5⟩ := ins_at t1 hx e1
  obtain ⟨Ca', c1, c2, c3, _⟩ := (st.kl nm I e2).ex
  rw [g4] at c1
  cases c1
  obtain ⟨u, k1, k2⟩ := g5.lookup e3
  exact ⟨a, Ca, dx, gs, u, g1, g3, c2, c3 f hf, k1, h1 H1 μ1 st1 t1 _ k2⟩
/-- a call, its answers -/
theorem run_G {CX : CXT} {k : Nat} {f : Addr} {fd : FuncData} {pps : List Str} {sp : Sp} {dvs : List L2.V} {ds : List Value} {E : XK} {pins : List (Addr × Obj)} {σ : L2.St} {H : Hp} {s : Shared} {Q : VK} {us : List Value} {vs : List L2.V} (F : FnG X.prog X.w X.K X.mg X.base CX k f fd pps sp) (hr : Room k X.A) (gd : X.A.guards = some []) (hb : Binds X.K fd pps ds) (hd : Vals dvs ds)
    (hx : PassesAt CX X σ E) (I : Inv X pins σ H s) (r : Vals vs us) (h : sp (vs ++ dvs) H Q E) : wpAny (model X.prog X.w) X.A (PySem.call (.ref f) us) (EP X pins σ Q) X.xe s := by
  have all : Vals (vs ++ dvs) (us ++ ds) := r.append hd
  have n : (us ++ ds).length = pps.length := all.length ▸ F.arity _ _ _ _ h
  refine wpAny_call (codeAny_mono (F.go _ _ s H ⟨us, []⟩ _ _ Q E hr gd I.env0 (hb s us I.kIn n) all h) ?_)
  rintro (err | fl) s2 hq
  · exact hx pins H s err s2 I hq
  · cases fl with
    | ret u => exact I.after hq
    | _ => exact hq.elim
def tMthG (X : Cx) (nm : Str) (E : L2.St → XK) (ta : TE) (t : TA) : TE := fun σ H Q => ta σ H fun x H1 => ∃ (Ca a dx : Addr) (gs : List (Str × L2.V)) (k : Nat) (fa : Addr) (fd : FuncData) (pps : List Str) (sp : Sp) (dvs : List L2.V) (ds : List Value), x = .ref a ∧ H1 a = some (.ins Ca dx gs) ∧ gs.lookup nm = none ∧ Cls X.K Ca ∧ Meth X.K Ca nm fa ∧
  FnG X.prog X.w X.K X.mg X.base (L2.CX X.prog X.w) k fa fd pps sp ∧ Room k X.A ∧ Binds X.K fd pps ds ∧ Vals dvs ds ∧ t σ H1 fun vs H2 => sp (.ref a :: (vs ++ dvs)) H2 Q (E σ)
theorem pe_mthG {o : Expr} {nm : Str} {es : List Expr} {apos pos : Pos} {pl : Sem Bool} {ta : TE} {t : TA} {E : L2.St → XK} (gd : X.A.guards = some []) (hx : ∀ σ, PassesAt (L2.CX X.prog X.w) X σ (E σ)) (he : PE X o ta) (ha : PA X es t)
    (hst : (es = [] ∧ ∀ σ H Q, t σ H Q → Q [] H) ∨ ∃ e r, es = e :: r ∧ starEach (e :: r) X.env = (false, eval e X.env) :: starEach r X.env ∧ (backTo pos (starEach r X.env)).any (·.1) = false)
    (ht : eval (.Call (.Attribute o nm apos) es [] pos) X.env = (do
      let ov ← eval o X.env
      standAt apos.atName
      let (f, first) ← holding [ov] (getMethod ov nm pl)
      callWith pos f first (backTo pos (starEach es X.env)) (backToKw pos (keywordEach [] X.env)))) :
    PE X (.Call (.Attribute o nm apos) es [] pos) (tMthG X nm E ta t) := by
  refine ⟨fun pins s σ H Q I h => ?_⟩
  refine PySem.W.methodCall_KW (pl := pl) (thn (he.run pins s σ H _ I h) fun u s1 ⟨x, H1, I1, rx, Ca, a, dx, gs, k, fa, fd, pps, sp, dvs, ds, ex, ea, l, c, hm, F, hr, hb, hd, q⟩ => ?_) ht
  subst ex
  obtain rfl : u = Value.ref a := rx
  refine getmeth_ok I1 ea c hm l ?_
  have fin : ∀ us s2 vs H2, Inv X pins σ H2 s2 → Vals vs us → sp (.ref a :: (vs ++ dvs)) H2 Q (E σ) → wpAny (model X.prog X.w) X.A (PySem.call (.ref fa) ([Value.ref a] ++ us)) (EP X pins σ Q) X.xe s2 := fun us s2 vs H2 I2 r q2 =>
    run_G (us := .ref a :: us) (vs := .ref a :: vs) F hr gd hb hd (hx σ) I2 (.cons rfl r) q2
  rcases hst with ⟨e, hn⟩ | ⟨e, r, ee, h1, h2⟩
  · subst e
    refine PySem.W.callWith_K0 (first := [.ref a]) I1.kIn hm.kp ?_
    exact fin [] s1 [] H1 I1 .nil (hn _ _ _ q)
  · subst ee
    exact PySem.W.callWith_K (first := [.ref a]) (h₀ := X.base) I1.ok.mod.kin hm.kp (thn (ha.run pos pins s1 σ H1 _ I1 q) fun us s2 ⟨vs, H2, I2, r, q2⟩ => ⟨I2.kIn, fin us s2 vs H2 I2 r q2⟩) h1 h2
end
end Q
end
section
-- SndO
set_option Elab.async false
set_option linter.all false
set_option maxRecDepth 100000
set_option maxHeartbeats 4000000
namespace Q
open PySem PySem.Spec PyProof.Rows L2
/-! ### rows of pairs in order -/
theorem lexB_tri (p q : Int × Int) : SrtO.lexB p q = true ∨ p = q ∨ SrtO.lexB q p = true := by
  obtain ⟨a, b⟩ := p
  obtain ⟨c, d⟩ := q
  rw [SrtO.lexB_iff, SrtO.lexB_iff]
  dsimp only
  by_cases h1 : a < c
  · exact .inl (.inl h1)
  · by_cases h2 : c < a
    · exact .inr (.inr (.inl h2))
    · have e : a = c := by omega
      subst e
      by_cases h3 : b < d
      · exact .inl (.inr ⟨rfl, h3⟩)
      · by_cases h4 : d < b
        · exact .inr (.inr (.inr ⟨rfl, h4⟩))
        · have e : b = d := by omega
          subst e
          exact .inr (.inl rfl)
theorem lexB_irr (p : Int × Int) : SrtO.lexB p p = false := by
  rw [SrtO.lexB_no]
  omega
theorem lexB_asym {p q : Int × Int} (h : SrtO.lexB p q = true) : SrtO.lexB q p = false := by
  rw [SrtO.lexB_iff] at h
  rw [SrtO.lexB_no]
  omega
theorem lexB_tr {p q r : Int × Int} (h : SrtO.lexB p q = true) (k : SrtO.lexB q r = true) : SrtO.lexB p r = true := by
  rw [SrtO.lexB_iff] at h k ⊢
  omega
theorem ltRow_irr : ∀ r : Row, ltRow r r = false
  | [] => rfl
  | p :: r => by rw [ltRow, if_pos rfl]; exact ltRow_irr r
theorem lexB_ltP (p q : Int × Int) : ltP p q = SrtO.lexB p q := rfl
theorem ltRow_asym : ∀ r t : Row, ltRow r t = true → ltRow t r = false
  | [], [], h => by cases h
  | [], _ :: _, _ => rfl
  | _ :: _, [], h => by cases h
  | p :: r, q :: t, h => by
    rw [ltRow] at h ⊢
    by_cases e : p = q
    · rw [if_pos e] at h
      rw [if_pos e.symm]
      exact ltRow_asym r t h
    · rw [if_neg e] at h
      rw [if_neg (Ne.symm e)]
      exact lexB_asym h
theorem ltRow_tri : ∀ r t : Row, ltRow r t = true ∨ r = t ∨ ltRow t r = true
  | [], [] => .inr (.inl rfl)
  | [], _ :: _ => .inl rfl
  | _ :: _, [] => .inr (.inr rfl)
  | p :: r, q :: t => by
    rw [ltRow, ltRow]
    by_cases e : p = q
    · subst e
      rw [if_pos rfl, if_pos rfl]
      rcases ltRow_tri r t with h | h | h
      · exact .inl h
      · subst h; exact .inr (.inl rfl)
      · exact .inr (.inr h)
    · rw [if_neg e, if_neg (Ne.symm e)]
      rcases lexB_tri p q with h | h | h
      · exact .inl h
      · exact absurd h e
      · exact .inr (.inr h)
theorem ltRow_trans : ∀ r t u : Row, ltRow r t = true → ltRow t u = true → ltRow r u = true
  | [], [], _, h, _ => by cases h
  | [], _ :: _, [], _, k => by cases k
  | [], _ :: _, _ :: _, _, _ => rfl
  | _ :: _, [], _, h, _ => by cases h
  | _ :: _, _ :: _, [], _, k => by cases k
  | p :: r, q :: t, z :: u, h, k => by
    rw [ltRow] at h k ⊢
    by_cases e : p = q
    · subst e
      rw [if_pos rfl] at h
      by_cases e2 : p = z
      · subst e2
        rw [if_pos rfl] at k ⊢
        exact ltRow_trans r t u h k
      · rw [if_neg e2] at k ⊢
        exact k
    · rw [if_neg e] at h
      by_cases e2 : q = z
      · subst e2
        rw [if_neg e]
        exact h
      · rw [if_neg e2] at k
        by_cases e3 : p = z
        · subst e3
          have z1 := lexB_asym h
          rw [lexB_ltP, z1] at k
          cases k
        · rw [if_neg e3]
          exact lexB_tr h k
theorem ltRow_swo : SrtO.Swo ltRow := by
  refine ⟨ltRow_asym, fun x y z h k => ?_⟩
  cases e : ltRow z x with
  | false => rfl
  | true =>
    rcases ltRow_tri y z with a | a | a
    · rw [ltRow_trans _ _ _ a e] at h; cases h
    · subst a; rw [e] at h; cases h
    · rw [a] at k; cases k
/-! the rows once each, in order -/
abbrev Inc (l : List Row) : Prop := l.Pairwise fun a b => ltRow a b = true
theorem mem_insR {x z : Row} : ∀ l : List Row, z ∈ insR x l ↔ z = x ∨ z ∈ l
  | [] => by rw [insR]; simp
  | y :: l => by
    rw [insR]
    by_cases e : x = y
    · rw [if_pos e]
      subst e
      simp
    · rw [if_neg e]
      cases k : ltRow x y with
      | true => simp
      | false =>
        simp only [Bool.false_eq_true, if_false]
        rw [List.mem_cons, mem_insR l, List.mem_cons]
        constructor
        · rintro (h | h | h)
          · exact .inr (.inl h)
          · exact .inl h
          · exact .inr (.inr h)
        · rintro (h | h | h)
          · exact .inr (.inl h)
          · exact .inl h
          · exact .inr (.inr h)
theorem inc_insR {x : Row} : ∀ l : List Row, Inc l → Inc (insR x l)
  | [], _ => by rw [insR]; exact List.pairwise_singleton _ _
  | y :: l, h => by
    obtain ⟨h1, h2⟩ := List.pairwise_cons.mp h
    rw [insR]
    by_cases e : x = y
    · rw [if_pos e]; exact h
    · rw [if_neg e]
      cases k : ltRow x y with
      | true =>
        refine List.pairwise_cons.mpr ⟨fun z hz => ?_, h⟩
        rcases List.mem_cons.mp hz with q | q
        · subst q; exact k
        · exact ltRow_trans _ _ _ k (h1 z q)
      | false =>
        simp only [Bool.false_eq_true, if_false]
        refine List.pairwise_cons.mpr ⟨fun z hz => ?_, inc_insR l h2⟩
        rcases (mem_insR l).mp hz with q | q
        · subst q
          rcases ltRow_tri z y with a | a | a
          · rw [a] at k; cases k
          · exact absurd a e
          · exact a
        · exact h1 z q
theorem tidyR_ok : ∀ (rs l : List Row), Inc l → Inc (rs.foldl (fun a x => insR x a) l) ∧ ∀ z, z ∈ rs.foldl (fun a x => insR x a) l ↔ z ∈ rs ∨ z ∈ l
  | [], l, h => ⟨h, fun z => by simp⟩
  | x :: rs, l, h => by
    obtain ⟨a, b⟩ := tidyR_ok rs (insR x l) (inc_insR l h)
    refine ⟨a, fun z => ?_⟩
    rw [List.foldl_cons, b z, mem_insR, List.mem_cons]
    constructor
    · rintro (h | h | h)
      · exact .inl (.inr h)
      · exact .inl (.inl h)
      · exact .inr h
    · rintro ((h | h) | h)
      · exact .inr (.inl h)
      · exact .inl h
      · exact .inr (.inr h)
theorem inc_uniq : ∀ {l m : List Row}, Inc l → Inc m → (∀ z, z ∈ l ↔ z ∈ m) → l = m
  | [], [], _, _, _ => rfl
  | [], y :: m, _, _, h => absurd ((h y).mpr (List.mem_cons_self ..)) (by simp)
  | x :: l, [], _, _, h => absurd ((h x).mp (List.mem_cons_self ..)) (by simp)
  | x :: l, y :: m, a, b, h => by
    obtain ⟨a1, a2⟩ := List.pairwise_cons.mp a
    obtain ⟨b1, b2⟩ := List.pairwise_cons.mp b
    have e : x = y := by
      rcases List.mem_cons.mp ((h x).mp (List.mem_cons_self ..)) with q | q
      · exact q
      · rcases List.mem_cons.mp ((h y).mpr (List.mem_cons_self ..)) with q' | q'
        · exact q'.symm
        · have z := ltRow_asym _ _ (b1 x q)
          rw [a1 y q'] at z
          cases z
    subst e
    rw [inc_uniq a2 b2 fun z => ?_]
    constructor
    · intro hz
      rcases List.mem_cons.mp ((h z).mp (List.mem_cons_of_mem _ hz)) with q | q
      · subst q
        have w := a1 z hz
        rw [ltRow_irr] at w
        cases w
      · exact q
    · intro hz
      rcases List.mem_cons.mp ((h z).mpr (List.mem_cons_of_mem _ hz)) with q | q
      · subst q
        have w := b1 z hz
        rw [ltRow_irr] at w
        cases w
      · exact q
/-- what is sorted, each once, is the rows in order -/
theorem tidyR_of {rs out : List Row} (h1 : out.Pairwise fun a b => ltRow b a = false) (h2 : out.Nodup) (h3 : ∀ z, z ∈ out ↔ z ∈ rs) : out = tidyR rs := by
  obtain ⟨a, b⟩ := tidyR_ok rs [] List.Pairwise.nil
  refine inc_uniq ?_ a fun z => ?_
  · have h4 : out.Pairwise fun a b => ltRow b a = false ∧ a ≠ b := (List.Pairwise.and h1 h2)
    refine h4.imp fun {x y} q => ?_
    rcases ltRow_tri x y with e | e | e
    · exact e
    · exact absurd e q.2
    · rw [q.1] at e; cases e
  · rw [h3 z]
    exact ((b z).trans (by simp)).symm

/-! ### a dict whose keys are rows -/
def entR (p : Row × Addr) : NestedKey × Addr × Value := (kRow p.1, p.2, .bool true)
def putR (ras : List (Row × Addr)) (r : Row) (a : Addr) : List (Row × Addr) := if r ∈ ras.map (·.1) then ras else ras ++ [(r, a)]
def dicO (P : Program) (w : World) (D : Addr) (ras : List (Row × Addr)) : HO := .ext fun h => ((D == sysModules) = false ∧ ras.length ≤ sizeLine) ∧ ∃ o es ep, h.get? D = some o ∧ o.ExactDict ∧ o.data = .dict es ep ∧ es.toList = (ras.map entR).map (entryOfKey (nestedKind P w))
theorem dicO_ok {P : Program} {w : World} {H : Hp} {h : Heap} {D : Addr} {ras : List (Row × Addr)} (lo : (D == sysModules) = false ∧ ras.length ≤ sizeLine) {o : Obj} {es : Array DictEntry} {ep : Nat} (ho : h.get? D = some o) (hc : o.ExactDict) (hd : o.data = .dict es ep)
    (he : es.toList = (ras.map entR).map (entryOfKey (nestedKind P w))) : ObjOk P w H h D (dicO P w D ras) :=
  ⟨⟨lo, o, es, ep, ho, hc, hd, he⟩, ⟨o, ho⟩, fun _ _ ⟨lo, o, es, ep, ho, z⟩ k => ⟨lo, o, es, ep, k _ ho, z⟩⟩
theorem keys_nodup {ras : List (Row × Addr)} (h : (ras.map (·.1)).Nodup) : ((ras.map entR).map (·.1)).Nodup := by
  rw [List.map_map]
  unfold List.Nodup at h ⊢
  rw [List.pairwise_map] at h ⊢
  exact h.imp fun ne e => ne (kRow_inj e)
theorem put_len (ras : List (Row × Addr)) (r : Row) (a : Addr) : (putR ras r a).length ≤ ras.length + 1 := by
  unfold putR
  by_cases e : r ∈ ras.map (·.1)
  · rw [if_pos e]; omega
  · rw [if_neg e, List.length_append]; exact Nat.le_refl _
theorem nodup_put {ras : List (Row × Addr)} {r : Row} {a : Addr} (h : (ras.map (·.1)).Nodup) : ((putR ras r a).map (·.1)).Nodup := by
  unfold putR
  by_cases e : r ∈ ras.map (·.1)
  · rw [if_pos e]; exact h
  · rw [if_neg e, List.map_append, List.nodup_append]
    refine ⟨h, by simp, fun x hx y hy z => ?_⟩
    rw [List.map_cons, List.map_nil, List.mem_singleton] at hy
    subst hy
    subst z
    exact e hx
theorem stored_put (ras : List (Row × Addr)) (r : Row) (a : Addr) : storedH (ras.map entR) (kRow r) a (.bool true) = (putR ras r a).map entR := by
  unfold putR
  by_cases e : r ∈ ras.map (·.1)
  · rw [if_pos e]
    obtain ⟨p, hp, rfl⟩ := List.mem_map.mp e
    have f : (atKey (ras.map entR) (kRow p.1)).isSome = true := by
      unfold atKey
      rw [Option.isSome_map, List.find?_isSome]
      exact ⟨entR p, List.mem_map_of_mem hp, decide_eq_true rfl⟩
    unfold storedH
    rw [if_pos f, List.map_map]
    refine List.map_congr_left fun q _ => ?_
    show putAt (kRow p.1) (.bool true) (entR q) = entR q
    unfold putAt
    by_cases c : (entR q).1 = kRow p.1
    · rw [if_pos c]; rfl
    · rw [if_neg c]
  · rw [if_neg e]
    have f : (atKey (ras.map entR) (kRow r)).isSome = false := by
      unfold atKey
      rw [Option.isSome_map]
      cases c : (ras.map entR).find? (fun x => decide (x.1 = kRow r)) with
      | none => rfl
      | some y =>
        have h1 := List.mem_of_find?_eq_some c
        have h2 := List.find?_some c
        obtain ⟨q, hq, rfl⟩ := List.mem_map.mp h1
        have h3 : kRow q.1 = kRow r := of_decide_eq_true h2
        exact absurd (List.mem_map.mpr ⟨q, hq, kRow_inj h3⟩) e
    unfold storedH
    rw [f, List.map_append]
    rfl
section
variable {X : Cx} {pins : List (Addr × Obj)} {σ : L2.St} {H : Hp} {s : Shared}
theorem dic_at (I : Inv X pins σ H s) {D : Addr} {ras : List (Row × Addr)} (e : H D = some (dicO X.prog X.w D ras)) : ((D == sysModules) = false ∧ ras.length ≤ sizeLine) ∧ ∃ o es ep, s.heap.get? D = some o ∧ o.ExactDict ∧ o.data = .dict es ep ∧ es.toList = (ras.map entR).map (entryOfKey (nestedKind X.prog X.w)) := by
  have z := I.hok D _ e
  exact z.1
theorem dic_of (I : Inv X pins σ H s) {D : Addr} {ras : List (Row × Addr)} (e : H D = some (dicO X.prog X.w D ras)) (hr : ∀ p ∈ ras, RRow X.K H p.1 (.ref p.2)) (hn : (ras.map (·.1)).Nodup) : s.heap.DictOfH (nestedKind X.prog X.w) D (ras.map entR) := by
  obtain ⟨_, o, es, ep, ho, hc, hd, he⟩ := dic_at I e
  refine ⟨o, es, ep, ho, hc, hd, he, fun x hx => ?_, keys_nodup hn⟩
  obtain ⟨p, hp, rfl⟩ := List.mem_map.mp hx
  exact ⟨((hr p hp).is I (u := .ref p.2) rfl).key, kRow_depth _⟩
theorem dic_set {E : Value → Shared → Prop} {D : Addr} {ras : List (Row × Addr)} {r : Row} {a : Addr} {Q : Unit → Shared → Prop} (I : Inv X pins σ H s) (hu : X.A.units + 8 < cLine) (e : H D = some (dicO X.prog X.w D ras)) (hr : ∀ p ∈ ras, RRow X.K H p.1 (.ref p.2))
    (hn : (ras.map (·.1)).Nodup) (hz : ras.length < sizeLine) (hk : RRow X.K H r (.ref a)) (h : ∀ s', Inv X pins σ (upd H D (dicO X.prog X.w D (putR ras r a))) s' → Q () s') : wpAny (model X.prog X.w) X.A (dictSet D (.ref a) (.bool true)) Q E s := by
  refine wpAny_dictSet_heap (knd := nestedKind X.prog X.w) hu ⟨(hk.is I (u := .ref a) rfl).key, kRow_depth r⟩ (dic_of I e hr hn) (fun h' dd sb => h _ ?_) (by rw [List.length_map]; omega)
  obtain ⟨o, es, ep, ho, hc, hd, he, _⟩ := dd
  rw [stored_put] at he
  exact d_write I (by rw [e]; exact True.intro) sb ⟨o, ho⟩ (dicO_ok ⟨(dic_at I e).1.1, by have := put_len ras r a; omega⟩ ho hc hd he)
end
/-- rows with their places, each row once -/
def gath : List (Row × Addr) → List (Row × Addr) → List (Row × Addr)
  | acc, [] => acc
  | acc, p :: ps => gath (putR acc p.1 p.2) ps
theorem gath_snoc : ∀ (ps acc : List (Row × Addr)) (p : Row × Addr), gath acc (ps ++ [p]) = putR (gath acc ps) p.1 p.2
  | [], acc, p => rfl
  | q :: ps, acc, p => by
    rw [List.cons_append, gath, gath]
    exact gath_snoc ps _ p
theorem put_mem {ras : List (Row × Addr)} {r : Row} {a : Addr} {p : Row × Addr} (h : p ∈ putR ras r a) : p ∈ ras ∨ p = (r, a) := by
  unfold putR at h
  by_cases e : r ∈ ras.map (·.1)
  · rw [if_pos e] at h; exact .inl h
  · rw [if_neg e] at h
    rcases List.mem_append.mp h with h | h
    · exact .inl h
    · exact .inr (List.mem_singleton.mp h)
theorem put_rows (ras : List (Row × Addr)) (r : Row) (a : Addr) (z : Row) : z ∈ (putR ras r a).map (·.1) ↔ z ∈ ras.map (·.1) ∨ z = r := by
  unfold putR
  by_cases e : r ∈ ras.map (·.1)
  · rw [if_pos e]
    exact ⟨.inl, fun h => h.elim id fun h => h ▸ e⟩
  · rw [if_neg e, List.map_append, List.mem_append, List.map_cons, List.map_nil, List.mem_singleton]
/-- what the gathering keeps -/
theorem gath_ok : ∀ (ps acc : List (Row × Addr)), (acc.map (·.1)).Nodup → ((gath acc ps).map (·.1)).Nodup ∧ (gath acc ps).length ≤ acc.length + ps.length ∧ (∀ p ∈ gath acc ps, p ∈ acc ∨ p ∈ ps) ∧ ∀ z, z ∈ (gath acc ps).map (·.1) ↔ z ∈ acc.map (·.1) ∨ z ∈ ps.map (·.1)
  | [], acc, h => ⟨h, Nat.le_refl _, fun p => .inl, fun z => by simp [gath]⟩
  | q :: ps, acc, h => by
    obtain ⟨a, b, c, d⟩ := gath_ok ps (putR acc q.1 q.2) (nodup_put h)
    have l := put_len acc q.1 q.2
    refine ⟨a, by rw [gath, List.length_cons]; omega, fun p hp => ?_, fun z => ?_⟩
    · rcases c p hp with k | k
      · rcases put_mem k with k | k
        · exact .inl k
        · exact .inr (List.mem_cons.mpr (.inl k))
      · exact .inr (List.mem_cons_of_mem _ k)
    · rw [gath, d z, put_rows, List.map_cons, List.mem_cons]
      constructor
      · rintro ((k | k) | k)
        · exact .inl k
        · exact .inr (.inl k)
        · exact .inr (.inr k)
      · rintro (k | k | k)
        · exact .inl (.inl k)
        · exact .inl (.inr k)
        · exact .inr k
/-! the loop that fills it -/
section
variable {B : Cx}
theorem dic_loop {tg kx vx itr : Expr} {sc : Scope} {po : Pos} {i : Nat} {J : L2.It} {fr : List Addr} {it D : Addr} {tn : Nat → Heap → Prop} {R : Result → Shared → Prop} {s : Shared} {σ : L2.St} {H1 : Hp} {ps : List (Row × Addr)}
    (T : Turn B.prog B.w B.K tg J fr it tn) (hc : B.calm = true) (hxe : B.xe = fun _ _ => False) (un : B.A.units + 8 < cLine) (hg : PG B tg (gName i)) (hk : PE B kx (tVar i)) (hv : PE B vx (tC (.bl true))) (hi : i < σ.length) (hf : ∀ b ∈ fr, H1 b = none) (hD : H1 D = none) (nD : D ∉ fr)
    (live : ∀ (H' : Hp) (s' : Shared), Inv B [] (L2.wipe σ [i]) H' s' → (∀ b ∈ fr, H' b = none) → ∀ b ∈ fr, FpOk B [] H' b) (hz : ps.length ≤ sizeLine)
    (hr : ∀ p ∈ ps, RRow B.K H1 p.1 (.ref p.2))
    (go : ∀ n H, (∀ a o, H1 a = some o → H a = some o) → n < ps.length → J.go n H) (stop : ∀ H, (∀ a o, H1 a = some o → H a = some o) → J.stop ps.length H)
    (yld : ∀ n (l : n < ps.length) H x H', (∀ a o, H1 a = some o → H a = some o) → J.yld n H x H' → x = .ref (ps[n]).2 ∧ H' = H)
    (I0 : Inv B [] (L2.wipe σ [i]) (upd H1 D (dicO B.prog B.w D [])) s) (t0 : tn 0 s.heap)
    (done : ∀ s', Inv B [] (L2.wipe σ [i]) (upd H1 D (dicO B.prog B.w D (gath [] ps))) s' → R (.ok .next) s') :
    codeAny (model B.prog B.w) B.A (.compLoop (.DictComp kx vx [⟨tg, itr, [], 0⟩] sc po) 0 (.ref it) (.ref D) B.env) R s := by
  have grow : ∀ ras, ∀ a o, H1 a = some o → (upd H1 D (dicO B.prog B.w D ras)) a = some o := fun ras => grow_upd hD
  have clear : ∀ ras, ∀ b ∈ fr, (upd H1 D (dicO B.prog B.w D ras)) b = none := fun ras b hb => by
    rw [upd_ne (fun z => nD (by rw [← z]; exact hb))]; exact hf b hb
  refine compLoop_anyD (fun n s' => n ≤ ps.length ∧ Inv B [] (L2.wipe σ [i]) (upd H1 D (dicO B.prog B.w D (gath [] (ps.take (ps.length - n))))) s' ∧ tn (ps.length - n) s'.heap) ?_ ps.length
    ⟨Nat.le_refl _, by rw [Nat.sub_self, List.take_zero]; exact I0, by rw [Nat.sub_self]; exact t0⟩
  rintro n s1 ⟨hn, I1, t1⟩
  cases n with
  | zero =>
    rw [Nat.sub_zero] at I1 t1
    rw [List.take_length] at I1
    refine thnF (T.done B rfl rfl rfl hc _ [] s1 _ _ (fun _ _ => False) I1 (live _ _ I1 (clear _)) t1 (stop _ (grow _))) fun r s2 ⟨e, I2⟩ => ?_
    subst e
    exact done s2 I2
  | succ n =>
    generalize hm : ps.length - (n + 1) = m at I1 t1
    have hl : m < ps.length := by omega
    refine thnF (T.item B rfl rfl rfl hc m [] s1 _ _ (fun _ _ => False) I1 (live _ _ I1 (clear _)) t1 (go m _ (grow _) hl)) fun r s2 ⟨u, e, h2⟩ => ?_
    subst e
    refine thnF h2 fun _ s3 ⟨x, H3, I3, r3, y3, t3, n3⟩ => ?_
    obtain ⟨ex, eH⟩ := yld m hl _ x H3 (grow _) y3
    subst eH
    subst ex
    have I3' := I3.pinned (live _ _ I3 (clear _)) (T.obj _ _ t3)
    have q_hg := hg.run _ s3 _ _ _ u (fun σ' H' => σ' = (L2.wipe σ [i]).set i (some (.ref (ps[m]).2)) ∧ H' = upd H1 D (dicO B.prog B.w D (gath [] (ps.take m)))) I3' r3 ⟨rfl, rfl⟩
    rw [hxe] at q_hg
    refine thnF q_hg fun _ s4 ⟨σ4, H4, I4, e4, e4'⟩ => ?_
    subst e4
    subst e4'
    have q_pts_nil := pts_nil.run _ s4 _ _ (fun b H' => b = true ∧ H' = upd H1 D (dicO B.prog B.w D (gath [] (ps.take m)))) I4 ⟨rfl, rfl⟩
    rw [hxe] at q_pts_nil
    refine thnF q_pts_nil fun b s5 ⟨H5, I5, eb, e5⟩ => ?_
    subst eb
    subst e5
    have sl : ((L2.wipe σ [i]).set i (some (L2.V.ref (ps[m]).2)))[i]? = some (some (.ref (ps[m]).2)) := by
      rw [List.getElem?_set_self]
      rw [L2.wipe_length]; exact hi
    simp only [if_true]
    have q_hk := hk.run _ s5 _ _ (fun v H' => v = .ref (ps[m]).2 ∧ H' = upd H1 D (dicO B.prog B.w D (gath [] (ps.take m)))) I5 ⟨_, sl, rfl, rfl⟩
    rw [hxe] at q_hk
    refine thnF q_hk fun ku s6 ⟨kv, H6, I6, rk, ek, e6⟩ => ?_
    subst ek
    subst e6
    have q_hv := hv.run _ s6 _ _ (fun v H' => v = .bl true ∧ H' = upd H1 D (dicO B.prog B.w D (gath [] (ps.take m)))) I6 ⟨rfl, rfl⟩
    rw [hxe] at q_hv
    refine thnF q_hv fun vu s7 ⟨vv, H7, I7, rv, ev, e7⟩ => ?_
    subst ev
    subst e7
    obtain rfl : ku = .ref (ps[m]).2 := rk
    obtain rfl : vu = .bool true := rv
    obtain ⟨g1, g2, g3, _⟩ := gath_ok (ps.take m) [] List.nodup_nil
    have im : Im H1 (upd H1 D (dicO B.prog B.w D (gath [] (ps.take m)))) := im_grow (grow _)
    refine dic_set I7 un upd_same (fun p hp => ?_) g1 ?_ ((hr _ (List.getElem_mem hl)).step im) fun s8 I8 => ?_
    · rcases g3 p hp with k | k
      · cases k
      · exact (hr p (List.mem_of_mem_take k)).step im
    · have : (ps.take m).length ≤ m := by rw [List.length_take]; omega
      have : ([] : List (Row × Addr)).length = 0 := rfl
      omega
    · rw [upd_upd] at I8
      have e9 : putR (gath [] (ps.take m)) (ps[m]).1 (ps[m]).2 = gath [] (ps.take (m + 1)) := by
        rw [List.take_succ_eq_append_getElem hl, gath_snoc]
      rw [e9] at I8
      refine ⟨n, Nat.lt_succ_self _, by omega, ?_, ?_⟩
      · rw [show ps.length - n = m + 1 by omega]
        refine (I8.unpinned (pins := [])).weak (by rw [List.length_set]) fun j v e => ?_
        by_cases c : j = i
        · subst c
          have := L2.wipe_some e
          exact absurd this.2 (by simp)
        · rw [List.getElem?_set_ne (Ne.symm c)]; exact e
      · rw [show ps.length - n = m + 1 by omega]
        refine T.keep _ _ _ t3 fun b hb o e => ?_
        exact (I8.pin (b, o) (List.mem_append_right _ (List.mem_append_right _ (mem_pinsAt hb e)))).1
end
end Q
end
section
-- SndO2
set_option Elab.async false
set_option linter.all false
set_option maxRecDepth 100000
set_option maxHeartbeats 4000000
namespace Q
open PySem PySem.Spec PyProof.Rows L2
/-! {x: True for x in rows} -/
section
variable {X : Cx}
def plcs (ps : List (Row × Addr)) : List L2.V := ps.map fun p => .ref p.2
def tDic (X : Cx) (tl : TE) : TE := fun σ H Q => tl σ H fun v H1 => ∃ (a : Addr) (ps : List (Row × Addr)), v = .ref a ∧ (SqL X.K H1 a (plcs ps) ∨ SqT X.K H1 a (plcs ps)) ∧ (∀ p ∈ ps, RRow X.K H1 p.1 (.ref p.2)) ∧
  ∀ D, H1 D = none → Q (.ref D) (upd H1 D (dicO X.prog X.w D (gath [] ps)))
theorem dic_fill {tg kx vx itr : Expr} {sc : Scope} {po : Pos} {x : Str} {i : Nat} {pins : List (Addr × Obj)} {σ : L2.St} {H2 : Hp} {s2 : Shared} {it : Addr} {fr : List Addr} {J : L2.It} {tn : Nat → Heap → Prop} {ps : List (Row × Addr)} {Qf : Value → Shared → Prop} {use : Option (Value → Sem Unit)}
    (hc : X.calm = true) (hN : X.N.Nodup) (un : X.A.units + 8 < cLine) (okk : BlkOk X.N X.env.scope sc [(x, i)]) (I2 : Inv X pins σ H2 s2) (T : Turn X.prog X.w X.K tg J fr it tn) (t2 : tn 0 s2.heap) (f2 : ∀ b ∈ fr, FpOk X pins H2 b)
    (hg : ∀ (s : Shared) (H : Hp) (C : Addr) (cl : List (Str × Addr)) (fr : List Addr), PG (X.blk s H sc (compEnvC sc cl C X.env) fr) tg (gName i))
    (hk : ∀ (s : Shared) (H : Hp) (C : Addr) (cl : List (Str × Addr)) (fr : List Addr), PE (X.blk s H sc (compEnvC sc cl C X.env) fr) kx (tVar i))
    (hv : ∀ (s : Shared) (H : Hp) (C : Addr) (cl : List (Str × Addr)) (fr : List Addr), PE (X.blk s H sc (compEnvC sc cl C X.env) fr) vx (tC (.bl true)))
    (hz : ps.length ≤ sizeLine) (hr : ∀ p ∈ ps, RRow X.K H2 p.1 (.ref p.2))
    (go : ∀ n H, (∀ a o, H2 a = some o → H a = some o) → n < ps.length → J.go n H) (stop : ∀ H, (∀ a o, H2 a = some o → H a = some o) → J.stop ps.length H)
    (yld : ∀ n (l : n < ps.length) H x H', (∀ a o, H2 a = some o → H a = some o) → J.yld n H x H' → x = .ref (ps[n]).2 ∧ H' = H)
    (out : ∀ C s' m, Inv X pins σ (upd H2 s2.heap.objs.size (dicO X.prog X.w s2.heap.objs.size (gath [] ps))) s' → s'.heap.Ns C m → FpOk X pins (upd H2 s2.heap.objs.size (dicO X.prog X.w s2.heap.objs.size (gath [] ps))) C → compPost (model X.prog X.w) X.A X.xe use Qf (.ref s2.heap.objs.size) C (.ok .next) s') :
    wpAny (model X.prog X.w) X.A newDict (fun acc s₃ => wpAny (model X.prog X.w) X.A (newFunctionEnv sc X.env.globals (cloFrom X.env.cells sc.names []) [] X.env.qual none .none (some X.env)) (fun cenv s₄ =>
        codeAny (model X.prog X.w) X.A (.compStart (.DictComp kx vx [⟨tg, itr, [], 0⟩] sc po) 0 (.ref it) acc { cenv with scope := relabel sc X.env }) (compPost (model X.prog X.w) X.A X.xe use Qf acc cenv.locals) s₄) X.xe s₃) X.xe s2 := by
  have hfree : ∀ y ∈ sc.names, y.2 = .free → ∃ c, X.env.cells.lookup y.1 = some c := fun y hy e => (okk.free y hy e).elim (fun z => I2.ok.has _ (.inl z)) fun z => I2.ok.has _ (.inr z)
  refine wpAny_newObj_type (newEnv_comp ?_)
  have DN : H2 s2.heap.objs.size = none := I2.hok.fresh (Nat.le_refl _)
  generalize eD : s2.heap.objs.size = D at out DN ⊢
  generalize e3 : ({ s2 with heap := s2.heap.push { cls := .type "dict", data := .dict #[] } } : Shared) = s3
  have h3 : s3.heap = s2.heap.push { cls := .type "dict", data := .dict #[] } := by rw [← e3]
  have old : ∀ b o, s2.heap.get? b = some o → s3.heap.get? b = some o := fun b o e => by rw [h3]; exact Heap.get?_push_of_some _ e
  have I3 : Inv X pins σ (upd H2 D (dicO X.prog X.w D [])) s3 := by
    rw [← e3, ← eD]
    refine Inv.laid (t' := s2.toks) I2 (fun b o e => Heap.get?_push_of_some _ e) (Nat.le_refl _) ?_
    exact dicO_ok ⟨beq_eq_false_iff_ne.mpr fun z => absurd I2.big (by rw [z]; exact Nat.lt_irrefl _), Nat.zero_le _⟩ (Heap.get?_push_size _ rfl) ⟨rfl, rfl, rfl⟩ rfl rfl
  have small : ∀ b ∈ fr, b < D := fun b hb => by
    obtain ⟨o, e, _⟩ := T.obj _ _ t2 b hb
    rw [← eD]; exact Heap.lt_size e
  have nD : D ∉ fr := fun z => absurd (small D z) (Nat.lt_irrefl _)
  have f3 : ∀ b ∈ fr, FpOk X pins (upd H2 D (dicO X.prog X.w D [])) b ∧ b < s3.heap.objs.size := fun b hb => by
    have l := small b hb
    obtain ⟨z1, z2⟩ := f2 b hb
    refine ⟨⟨by rw [upd_ne (Nat.ne_of_lt l)]; exact z1, z2⟩, ?_⟩
    rw [h3, Heap.size_push, eD]
    exact Nat.lt_succ_of_lt l
  have t3 : tn 0 s3.heap := T.keep _ _ _ t2 fun b _ => old b
  have I4 := block_start I3 okk hN f3
  have g1 := hg s3 (upd H2 D (dicO X.prog X.w D [])) s3.heap.objs.size (cellsFrom (s3.heap.objs.size + 1) sc.names (cloFrom X.env.cells sc.names [])) fr
  have g2 := hk s3 (upd H2 D (dicO X.prog X.w D [])) s3.heap.objs.size (cellsFrom (s3.heap.objs.size + 1) sc.names (cloFrom X.env.cells sc.names [])) fr
  have g3 := hv s3 (upd H2 D (dicO X.prog X.w D [])) s3.heap.objs.size (cellsFrom (s3.heap.objs.size + 1) sc.names (cloFrom X.env.cells sc.names [])) fr
  show codeAny _ _ (.compStart _ 0 (.ref it) (.ref D) (compEnvC sc (cellsFrom (s3.heap.objs.size + 1) sc.names (cloFrom X.env.cells sc.names [])) s3.heap.objs.size X.env)) (compPost _ _ _ _ _ _ s3.heap.objs.size) _
  generalize eC : compEnvC sc (cellsFrom (s3.heap.objs.size + 1) sc.names (cloFrom X.env.cells sc.names [])) s3.heap.objs.size X.env = cv at I4 g1 g2 g3 ⊢
  have cL : cv.locals = s3.heap.objs.size := by subst eC; rfl
  have t4 : tn 0 (pushCells (s3.heap.push { cls := .type "dict", data := .dict #[] }) sc.names) := T.keep _ _ _ t3 fun b _ o e => pushCells_keeps _ _ _ _ (Heap.get?_push_of_some _ e)
  have hi : i < σ.length := by
    rw [I2.len]
    exact (List.getElem?_eq_some_iff.mp (okk.ix (x, i) (List.mem_singleton.mpr rfl))).1
  have lp := dic_loop (B := X.blk s3 (upd H2 D (dicO X.prog X.w D [])) sc cv fr) (itr := itr) (sc := sc) (po := po) (R := compPost (model X.prog X.w) X.A X.xe use Qf (.ref D) s3.heap.objs.size)
    T hc rfl un g1 g2 g3 hi (fun b hb => (f2 b hb).1) DN nD (fun H' s' I' hn b hb => ?_) hz hr go stop yld I4 t4 (fun s' I' => ?_)
  · exact codeAny_compStart_dict lp (T.self X.A 0 _ _ _ t4 lp)
  · obtain ⟨w1, w2⟩ := I'.ok.exf b hb
    refine ⟨hn b hb, w1, I'.ok.exfs b hb, .inl hb, w2, fun p hp => ?_⟩
    have hp : p ∈ ([] : List (Addr × Obj)) ++ [] := hp
    cases hp
  · have I7 : Inv X pins σ _ s' := I3.call' (ch := fr) I'.os I'.base I'.hok I'.bare fun b hb => by
      obtain ⟨_, w1, w2, w3, w4, w5⟩ := (f3 b hb).1
      exact ⟨w3, w1, w4, w5⟩
    have nC := I'.free
    obtain ⟨m, hn, _⟩ := I'.loc
    have hn : s'.heap.Ns cv.locals m := hn
    have nC : (upd H2 D (dicO X.prog X.w D (gath [] ps))) cv.locals = none := nC
    rw [cL] at hn nC
    exact out _ s' m I7 hn (I3.fpOk (Nat.le_refl _) nC)
/-- a list, a tuple walked -/
theorem seq_walk {pins : List (Addr × Obj)} {σ : L2.St} {H1 : Hp} {s1 : Shared} {tg : Expr} {a : Addr} {xs : List L2.V} {E : Value → Shared → Prop} (I : Inv X pins σ H1 s1) (h : SqL X.K H1 a xs ∨ SqT X.K H1 a xs) :
    wpAny (model X.prog X.w) X.A (pyIter (.ref a)) (PIE X pins σ tg fun J H' => H' = H1 ∧ xs.length ≤ sizeLine ∧ (J = Itl X.K a ∧ SqL X.K H1 a xs ∨ J = Itt X.K a ∧ SqT X.K H1 a xs)) E s1 := by
  have fresh : ∀ b ∈ [s1.heap.objs.size], FpOk X pins H1 b := fun b hb => by
    rw [List.mem_singleton] at hb
    subst hb
    exact I.fpOk (Nat.le_refl _) (I.hok.fresh (Nat.le_refl _))
  rcases h with h | h
  · obtain ⟨cs, _, p, hz⟩ := I.list h
    refine wpAny_pyIter_list p.isList ?_
    exact ⟨_, _, _, _, H1, rfl, I.kept (t' := s1.toks) fun b o e => Heap.get?_push_of_some _ e, turn_list a _, ⟨_, Heap.get?_push_size _ rfl, rfl, rfl⟩, fresh, rfl, hz, .inl ⟨rfl, h⟩⟩
  · obtain ⟨cs, _, p, hz⟩ := I.tuple h
    refine wpAny_pyIter_tuple (show s1.heap.IsTuple a cs.toArray from p) ?_
    exact ⟨_, _, _, _, H1, rfl, I.kept (t' := s1.toks) fun b o e => Heap.get?_push_of_some _ e, turn_tuple a _, ⟨_, Heap.get?_push_size _ rfl, rfl, rfl⟩, fresh, rfl, hz, .inr ⟨rfl, h⟩⟩
theorem plcs_at (ps : List (Row × Addr)) {n : Nat} (l : n < ps.length) : (plcs ps)[n]? = some (.ref (ps[n]).2) := by
  unfold plcs
  rw [List.getElem?_map, List.getElem?_eq_getElem l]
  rfl
/-- the dict, as a value -/
theorem pe_dic {tg itr kx vx : Expr} {sc : Scope} {po : Pos} {x : Str} {i : Nat} {tl : TE} (hc : X.calm = true) (hN : X.N.Nodup) (un : X.A.units + 8 < cLine) (okk : BlkOk X.N X.env.scope sc [(x, i)]) (hl : PE X itr tl) (hs : ∀ v, foldedSetIterable itr X.env v = pure v)
    (hg : ∀ (s : Shared) (H : Hp) (C : Addr) (cl : List (Str × Addr)) (fr : List Addr), PG (X.blk s H sc (compEnvC sc cl C X.env) fr) tg (gName i))
    (hk : ∀ (s : Shared) (H : Hp) (C : Addr) (cl : List (Str × Addr)) (fr : List Addr), PE (X.blk s H sc (compEnvC sc cl C X.env) fr) kx (tVar i))
    (hv : ∀ (s : Shared) (H : Hp) (C : Addr) (cl : List (Str × Addr)) (fr : List Addr), PE (X.blk s H sc (compEnvC sc cl C X.env) fr) vx (tC (.bl true))) :
    PE X (.DictComp kx vx [⟨tg, itr, [], 0⟩] sc po) (tDic X tl) := by
  refine ⟨fun pins s σ H Q I h => ?_⟩
  rw [arm_eval_DictComp]
  have hfree : ∀ y ∈ sc.names, y.2 = .free → ∃ c, X.env.cells.lookup y.1 = some c := fun y hy e => (okk.free y hy e).elim (fun z => I.ok.has _ (.inl z)) fun z => I.ok.has _ (.inr z)
  refine wpAny_comprehension_free rfl hs (closure_ok hfree) okk.kind (fun y hy e => by rw [okk.uniq y hy, e]) ?_
  refine thn (hl.run pins s σ H _ I h) fun xv s1 ⟨v, H1, I1, rx, a, ps, ev, hw, hr, q⟩ => ?_
  subst ev
  obtain rfl : xv = .ref a := rx
  refine thn (seq_walk (tg := tg) I1 hw) fun itv s2 ⟨it, fr, tn, J, H2, e, I2, T, t2, f2, eH, hz, hJ⟩ => ?_
  subst e
  subst eH
  have hz : ps.length ≤ sizeLine := by
    have := hz
    unfold plcs at this
    rwa [List.length_map] at this
  have len : (plcs ps).length = ps.length := List.length_map ..
  refine dic_fill hc hN un okk I2 T t2 f2 hg hk hv hz hr ?_ ?_ ?_ ?_
  · intro n H' k l
    rcases hJ with ⟨e, hw⟩ | ⟨e, hw⟩
    · subst e; exact ⟨_, _, SqL.ext hw k, plcs_at ps l⟩
    · subst e; exact ⟨_, _, SqT.mono' (im_grow k) hw, plcs_at ps l⟩
  · intro H' k
    rcases hJ with ⟨e, hw⟩ | ⟨e, hw⟩
    · subst e; exact ⟨_, SqL.ext hw k, Nat.le_of_eq len⟩
    · subst e; exact ⟨_, SqT.mono' (im_grow k) hw, Nat.le_of_eq len⟩
  · intro n l H' x H'' k y
    rcases hJ with ⟨e, hw⟩ | ⟨e, hw⟩
    · subst e
      obtain ⟨y1, y2⟩ := y
      have z := y2 _ (SqL.ext hw k)
      rw [plcs_at ps l] at z
      exact ⟨(Option.some.inj z).symm, y1⟩
    · subst e
      obtain ⟨y1, y2⟩ := y
      have z := y2 _ (SqT.mono' (im_grow k) hw)
      rw [plcs_at ps l] at z
      exact ⟨(Option.some.inj z).symm, y1⟩
  · intro C s' m I' hn f
    refine ⟨m, hn, fun h'' sb => ?_⟩
    obtain ⟨w0, w1, w2, w3, w4, w5⟩ := f
    exact ⟨.ref _, _, I'.turned (t' := s'.toks) (fun b o hb e => (sb.2 b hb).trans e) w0 w1 w3 w4 w5, rfl, q _ (I2.hok.fresh (Nat.le_refl _))⟩
end
end Q
end
section
-- SndO3
set_option Elab.async false
set_option linter.all false
set_option maxRecDepth 100000
set_option maxHeartbeats 4000000
namespace Q
open PySem PySem.Spec PyProof.Rows L2
/-! ### sorted(d), d's keys rows -/
theorem RowIs.inj {h : Heap} {r t : Row} {u : Value} (x : RowIs h r u) (y : RowIs h t u) : r = t := kRow_inj (NestedIs.inj _ _ _ x.key y.key)
open Classical in
noncomputable def rowAt (h : Heap) (u : Value) : Row := if e : ∃ r, RowIs h r u then Classical.choose e else []
theorem rowAt_of {h : Heap} {r : Row} {u : Value} (x : RowIs h r u) : rowAt h u = r := by
  have e : ∃ r, RowIs h r u := ⟨r, x⟩
  unfold rowAt
  rw [dif_pos e]
  exact RowIs.inj (Classical.choose_spec e) x
section
variable {prog : Program} {w : World} {A : Around} {s : Shared} {Q : Bool → Shared → Prop} {E : Value → Shared → Prop}
theorem lex_rows (hu : A.units + 9 < cLine) : ∀ (r t : Row) (us vs : List Value) (fin : Bool) (i : Nat), PySem.Paired (PrIs s.heap) r us → PySem.Paired (PrIs s.heap) t vs → fin = decide (r.length < t.length) → Q (ltRow r t) s → PySem.W.KatLex prog w A false fin Q (us.zip vs) i s
  | [], t, _, vs, fin, i, x, y, e, h => by
    cases x
    subst e
    refine PySem.W.kat_nil ?_
    cases t with
    | nil => exact h
    | cons q t => exact h
  | p :: r, [], _, _, fin, i, x, y, e, h => by
    cases x
    cases y
    subst e
    exact PySem.W.kat_nil h
  | p :: r, q :: t, _, _, fin, i, x, y, e, h => by
    cases x with
    | @cons _ u _ us x1 x2 =>
      cases y with
      | @cons _ v _ vs y1 y2 =>
        rw [ltRow] at h
        have k := eqAt_key (kPr p) (kPr q) A s u v x1.key y1.key (by
          have := kPr_depth p
          omega)
        rw [← NestedKey.decide_eq] at k
        refine PySem.W.kat_cons (k _ _ _ _ ?_)
        refine PySem.W.kat_go (fun e1 => ?_) (fun e1 => ?_)
        · have c : p = q := kPr_inj (of_decide_eq_true e1)
          rw [if_pos c] at h
          exact PySem.W.kat_yes (lex_rows hu r t us vs fin (i + 1) x2 y2 (by rw [e, List.length_cons, List.length_cons]; simp) h)
        · have c : ¬ p = q := fun z => of_decide_eq_false e1 (by rw [z])
          rw [if_neg c] at h
          exact PySem.W.kat_no (PySem.W.kat_one _ _ (prs_lt (by omega) x1 y1 _ _ _ _ h))
theorem rows_cmp (hu : A.units + 9 < cLine) {vs : List Value} {k : Value → Row} (hp : ∀ v ∈ vs, RowIs s.heap (k v) v) : SrtO.Cmp prog w A s (tuples' false) (fun p => p.1 ∈ vs) (SrtO.lt2 fun v u => ltRow (k v) (k u)) := by
  intro p q hm hm'
  obtain ⟨a, xs, e1, ⟨o, ho, hc, n, hd⟩, q1⟩ := hp _ hm
  obtain ⟨b, ys, e2, ⟨o', ho', hc', n', hd'⟩, q2⟩ := hp _ hm'
  show wpAny (model prog w) A (keyLt' (tuples' false) p.1 q.1) (fun r s' => s' = s ∧ r = ltRow (k p.1) (k q.1)) (fun _ _ => False) s
  rw [e1, e2] at *
  refine PySem.W.kat_lt ho hd ho' hd' (lex_rows hu _ _ _ _ _ 0 q1 q2 ?_ ⟨rfl, rfl⟩)
  rw [List.size_toArray, List.size_toArray, (prs_get q1).1, (prs_get q2).1]
theorem row_firsts {h : Heap} {k : Value → Row} : ∀ vs : List Value, (∀ v ∈ vs, RowIs h (k v) v ∧ k v ≠ []) → ∃ fs : List Value, PySem.W.KatTups h vs fs ∧ fs.length = vs.length ∧ ∀ f ∈ fs, ∃ p, PrIs h p f
  | [], _ => ⟨[], PySem.W.KatTups.nil, rfl, fun f hf => by cases hf⟩
  | v :: vs, x => by
    obtain ⟨fs, z, hl, hi⟩ := row_firsts (k := k) vs fun u hu => x u (List.mem_cons_of_mem _ hu)
    obtain ⟨⟨a, its, e, ⟨o, ho, hc, n, hd⟩, q⟩, ne⟩ := x v (List.mem_cons_self ..)
    generalize k v = r at q ne
    cases q with
    | nil => exact absurd rfl ne
    | @cons p u _ us q1 q2 =>
      subst e
      refine ⟨u :: fs, PySem.W.KatTups.cons ho hc hd rfl z, by rw [List.length_cons, List.length_cons, hl], fun f hf => ?_⟩
      rcases List.mem_cons.mp hf with c | c
      · subst c; exact ⟨p, q1⟩
      · exact hi f c
theorem rows_sortable (hu : A.units + 9 < cLine) {a : Addr} {vs : List Value} {k : Value → Row} (h0 : 0 < vs.length) (hp : ∀ v ∈ vs, RowIs s.heap (k v) v ∧ k v ≠ []) (ha : ∀ o, s.heap.get? a = some o → o.cls ≠ .type "tuple") : SrtO.SortableO prog w A s a vs fun v u => ltRow (k v) (k u) := by
  intro h' keep
  have hp' : ∀ v ∈ vs, RowIs h' (k v) v ∧ k v ≠ [] := fun v hm => ⟨(hp v hm).1.keeps fun b o e c => keep b o (fun z => ha o (z ▸ e) c) e, (hp v hm).2⟩
  obtain ⟨fs, z, hl, hi⟩ := row_firsts (k := k) vs hp'
  refine ⟨tuples' false, fun Q E hq => ?_, rows_cmp (s := { s with heap := h' }) hu fun v hm => (hp' v hm).1⟩
  refine PySem.W.kat_kind (T := .type "tuple") z (by omega) (fun f hm => ?_) (by rfl) ?_
  · obtain ⟨p, a, t, t', rfl, o, ho, hc, _⟩ := hi f hm
    have z : PySem.W.Looks (model prog w) h' (typeOf (.ref a)) o.cls := (PySem.W.Looks.ld ho).andThen .now
    rw [hc] at z
    exact z
  · have e : (Value.type "tuple" != Value.type "tuple") = false := by first | rfl | decide
    rw [e]
    exact hq
end
/-- the collected keys -/
theorem keys_acc {P : Program} {w : World} {ras : List (Row × Addr)} {es : Array DictEntry} (he : es.toList = (ras.map entR).map (entryOfKey (nestedKind P w))) {acc : Array Value} (h : ItemsOf (fun i v => ∃ hi : i < es.size, v = es[i].key) acc es.size) :
    acc.toList = ras.map fun p => .ref p.2 := by
  obtain ⟨h1, h2⟩ := h
  have hz : es.size = ras.length := by rw [← Array.length_toList, he, List.length_map, List.length_map]
  refine List.ext_getElem? fun i => ?_
  by_cases l : i < ras.length
  · have l2 : i < acc.size := by omega
    have k : acc[i]? = some acc[i] := Array.getElem?_eq_getElem l2
    obtain ⟨hi, e⟩ := h2 i _ k
    rw [Array.getElem?_toList, k, e, List.getElem?_map, List.getElem?_eq_getElem l]
    have e2 : es.toList[i]? = some es[i] := by rw [Array.getElem?_toList]; exact Array.getElem?_eq_getElem hi
    rw [he, List.map_map, List.getElem?_map, List.getElem?_eq_getElem l] at e2
    rw [← Option.some.inj e2]
    rfl
  · rw [List.getElem?_eq_none_iff.mpr (by rw [Array.length_toList]; omega), List.getElem?_eq_none_iff.mpr (by rw [List.length_map]; omega)]
/-- what a source gives, collected: the new list stands behind all that was there -/
theorem collect_src {prog : Program} {w : World} {A : Around} {s : Shared} {E : Value → Shared → Prop} {T : String} {r d : Addr} {n : Nat} {P : Nat → Value → Prop} {OK : Heap → Prop} {R : List Value → Shared → Prop}
    (K : PySem.W.KdlSrc prog w T r d n P OK) (hh : A.handled = none) (ok : OK s.heap) (hn : n ≤ sizeLine)
    (h : ∀ (h' : Heap) (tk : Nat) (acc : Array Value), (∀ b o, s.heap.get? b = some o → h'.get? b = some o) → s.heap.objs.size < h'.objs.size → ItemsOf P acc n → R acc.toList { s with heap := h', toks := tk }) : wpAny (model prog w) A (collect (.ref r)) R E s := by
  obtain ⟨lr, ld⟩ := K.there _ ok
  have old : ∀ b o, s.heap.get? b = some o → b ≠ s.heap.objs.size ∧ (s.heap.push { cls := .type "list", data := .seq ([] : List Value).toArray }).get? b = some o := fun b o e => ⟨Nat.ne_of_lt (Heap.lt_size e), Heap.get?_push_of_some _ e⟩
  have it := PySem.W.kdl_extend (A := A) (s := { s with heap := s.heap.push { cls := .type "list", data := .seq ([] : List Value).toArray } }) K hh (K.keep _ _ ok fun b _ o e => (old b o e).2) s.heap.objs.size (Nat.ne_of_gt lr) (Nat.ne_of_gt ld) (.ref s.heap.objs.size) 0 (Heap.get?_push_size _ rfl)
    (R := fun q s' => ∃ h' tk acc c, q = .ok (.ret (.ref s.heap.objs.size)) ∧ s' = { s with heap := h', toks := tk } ∧ (∀ b o, s.heap.get? b = some o → h'.get? b = some o) ∧ h'.get? s.heap.objs.size = some { cls := .type "list", dict := none, data := .seq acc c, slots := #[] } ∧ ItemsOf P acc n)
    (fun h' tk acc c hk hS hi => ⟨h', tk, acc, c, rfl, rfl, fun b o e => hk b o (old b o e).1 (old b o e).2, hS, hi⟩) hn
  unfold collect
  refine wpAny_bind (wpAny_runValue (codeAny_builtin entry_proto_collect' ?_))
  rw [A.under_plainId PySem.F.plain_proto_collect _]
  show wpAny _ A.in1 (newList [] >>= fun l => again (.builtin "list.__iadd__" ⟨[l, .ref r], []⟩)) _ _ s
  refine wpAny_bind (wpAny_newObj_type (wpAny_pure ⟨plainId_quiet PySem.F.plain_list_iadd _, codeAny_builtin entry_list_iadd' ?_⟩))
  rw [A.under_plainId PySem.F.plain_list_iadd _]
  refine wpAny_mono it (fun res s' x => ?_) fun e s' x => ?_
  · cases res with
    | done f =>
      obtain ⟨h', tk, acc, c, e, rfl, hk, hS, hi⟩ := x
      cases e
      exact wpAny_bind (wpAny_load hS (wpAny_pure (h _ _ _ hk (Heap.lt_size hS) hi)))
    | again c1 =>
      refine ⟨x.1, codeAny_mono x.2 fun q s2 y => ?_⟩
      obtain ⟨h', tk, acc, c, rfl, rfl, hk, hS, hi⟩ := y
      exact wpAny_bind (wpAny_load hS (wpAny_pure (h _ _ _ hk (Heap.lt_size hS) hi)))
  · obtain ⟨_, _, _, _, z, _⟩ := x
    cases z
def adr : Value → Addr
  | .ref a => a
  | _ => 0
section
variable {X : Cx}
def rSortD (X : Cx) : List L2.V → Hp → VK → Prop := fun vs H Q => ∃ (D : Addr) (ras : List (Row × Addr)), vs = [.ref D] ∧ H D = some (dicO X.prog X.w D ras) ∧ (∀ p ∈ ras, RRow X.K H p.1 (.ref p.2) ∧ p.1 ≠ []) ∧ (ras.map (·.1)).Nodup ∧
  ∀ (out : List L2.V) (p : Addr), PySem.Paired (RRow X.K H) (tidyR (ras.map (·.1))) out → H p = none → Q (.ref p) (upd H p (.lst out))
theorem cr_sortedD (hc : X.calm = true) (un : X.A.units + 64 < cLine) : CallR X (.builtin "sorted") (rSortD X) := by
  intro pins s σ H vs us Q I r h
  obtain ⟨D, ras, rfl, eD, hr, hn, q⟩ := h
  obtain rfl := Vals.ref1 r
  obtain ⟨⟨lo, hz⟩, o, es, ep, ho, hx, hd, he⟩ := dic_at I eD
  have hh : X.A.handled = none := I.ok.hd hc
  have hes : es.size = ras.length := by rw [← Array.length_toList, he, List.length_map, List.length_map]
  refine Calls.call_function_entry kind_sorted plain_sorted entry_sorted (args_sorted1 _) ?_
  unfold Builtin.«sorted»
  refine wpAny_bind (m := checkCount "sorted" 1 1 _) (wpAny_pure ?_)
  refine wpAny_bind (collect_src (A := X.A.in1) (KdlSrc.rawDict (es := es) (ep := ep) lo) hh ⟨o, ho, hx, hd⟩ (by rw [hes]; exact hz) fun h' tk acc hk hlt hacc => ?_)
  rw [keys_acc he hacc]
  generalize hvs : (ras.map fun p => Value.ref p.2) = vs
  have hvl : vs.length = ras.length := by rw [← hvs, List.length_map]
  refine wpAny_bind (wpAny_newList ?_ (by rw [hvl]; exact hz))
  have hob : (h'.push { cls := .type "list", data := .seq vs.toArray }).get? h'.objs.size = some (seqObj "list" vs.toArray 0) := Heap.get?_push_size _ rfl
  have kb : ∀ b o, s.heap.get? b = some o → (h'.push { cls := .type "list", data := .seq vs.toArray }).get? b = some o := fun b o e => Heap.get?_push_of_some _ (hk b o e)
  -- the rows' places
  have rw_ : ∀ p ∈ ras, RowIs s.heap p.1 (.ref p.2) := fun p hp => (hr p hp).1.is I (u := .ref p.2) rfl
  have at_ : ∀ v ∈ vs, ∃ p ∈ ras, v = .ref p.2 ∧ rowAt s.heap v = p.1 := fun v hv => by
    rw [← hvs] at hv
    obtain ⟨p, hp, rfl⟩ := List.mem_map.mp hv
    exact ⟨p, hp, rfl, rowAt_of (rw_ p hp)⟩
  have sorts : 2 ≤ vs.length → SrtO.SortableO X.prog X.w X.A.in1.in1 { s with heap := h'.push { cls := .type "list", data := .seq vs.toArray }, toks := tk } h'.objs.size vs fun v u => ltRow (rowAt s.heap v) (rowAt s.heap u) := fun h2 => by
    refine rows_sortable (by
      have e1 : X.A.in1.in1.units = X.A.units + 1 + 1 := rfl
      omega) (by omega) (fun v hv => ?_) fun o' e c => ?_
    · obtain ⟨p, hp, rfl, e⟩ := at_ v hv
      rw [e]
      exact ⟨(rw_ p hp).keeps fun b o e _ => kb b o e, (hr p hp).2⟩
    · rw [show (h'.push { cls := .type "list", data := .seq vs.toArray }).get? h'.objs.size = some o' from e] at hob
      cases hob
      exact absurd (Value.type.inj c) (by decide)
  refine wpAny_bind (wpAny_holding (wpAny_call_entry slot_list_sort ⟨_, hob, rfl⟩ entry_list_sort (SrtO.list_sort_ord (ltv := fun v u => ltRow (rowAt s.heap v) (rowAt s.heap u)) ⟨fun x y => ltRow_swo.asym _ _, fun x y z => ltRow_swo.tr _ _ _⟩ hob (by rw [hvl]; exact hz) sorts fun out hs hb => ⟨_, rfl, ?_⟩) (args_list_sort _)))
  refine wpAny_pure ⟨_, rfl, ?_⟩
  have mem : ∀ v ∈ out, ∃ p ∈ ras, v = .ref p.2 ∧ rowAt s.heap v = p.1 := fun v hv => at_ v (hb.perm.mem_iff.mp hv)
  have rows : vs.map (rowAt s.heap) = ras.map (·.1) := by
    rw [← hvs, List.map_map]
    exact List.map_congr_left fun p hp => rowAt_of (rw_ p hp)
  have pm : (out.map (rowAt s.heap)).Perm (ras.map (·.1)) := by
    rw [← rows]
    exact hb.perm.map _
  have et : out.map (rowAt s.heap) = tidyR (ras.map (·.1)) := tidyR_of (List.pairwise_map.mpr hs) (pm.nodup_iff.mpr hn) fun z => pm.mem_iff
  have refs : Vals (out.map fun v => L2.V.ref (adr v)) out := by
    clear et pm hb hs
    induction out with
    | nil => exact .nil
    | cons v out ih =>
      obtain ⟨p, _, e, _⟩ := mem v (List.mem_cons_self ..)
      refine .cons ?_ (ih fun u hu => mem u (List.mem_cons_of_mem _ hu))
      subst e
      rfl
  have pr : PySem.Paired (RRow X.K H) (out.map (rowAt s.heap)) (out.map fun v => L2.V.ref (adr v)) := by
    clear et pm hb hs refs
    induction out with
    | nil => exact .nil
    | cons v out ih =>
      obtain ⟨p, hp, e, e2⟩ := mem v (List.mem_cons_self ..)
      refine .cons ?_ (ih fun u hu => mem u (List.mem_cons_of_mem _ hu))
      rw [e2, e]
      exact (hr p hp).1
  rw [et] at pr
  obtain ⟨e9, hat⟩ := sortedHeap_at (vs := vs) (out := out.toArray) hob
  have fresh : s.heap.objs.size ≤ h'.objs.size := Nat.le_of_lt hlt
  have hl : out.length = ras.length := by rw [hb.len, hvl]
  refine ⟨.ref _, upd H h'.objs.size (.lst (out.map fun v => L2.V.ref (adr v))), I.laid (fun b o e => ?_) fresh ⟨by rw [List.length_map, hl]; exact hz, out, e9, refs, hat⟩, rfl, q _ _ pr (I.hok.fresh fresh)⟩
  rw [sortedHeap_old (Nat.ne_of_lt (Heap.lt_size (hk b o e))) (by rw [Heap.size_push]; exact Nat.lt_succ_of_lt (Heap.lt_size (hk b o e)))]
  exact kb b o e
end
end Q
end
section
-- SndO4
set_option Elab.async false
set_option linter.all false
set_option maxRecDepth 100000
set_option maxHeartbeats 4000000
namespace Q
open PySem PySem.Spec PyProof.Rows L2
theorem mem_tidyR {rs : List Row} {z : Row} : z ∈ tidyR rs ↔ z ∈ rs := by
  have h := (tidyR_ok rs [] List.Pairwise.nil).2 z
  exact h.trans (by simp)
theorem tidyR_congr {a b : List Row} (h : ∀ z, z ∈ a ↔ z ∈ b) : tidyR a = tidyR b :=
  inc_uniq (tidyR_ok a [] List.Pairwise.nil).1 (tidyR_ok b [] List.Pairwise.nil).1 fun z => mem_tidyR.trans ((h z).trans mem_tidyR.symm)
section
variable {K : PySem.W.Frag} {H : Hp} {μ : List Addr}
theorem rprs_rd {r : Row} {vs : List L2.V} (x : PySem.Paired (RPr K H) r vs) : RDs K H μ (r.map fun p => .tup [.int p.1, .int p.2]) vs := by
  induction x with
  | nil => exact .nil
  | cons a _ ih =>
    obtain ⟨b, e, h⟩ := a
    subst e
    exact .cons (.tup h (.cons (.int _) (.cons (.int _) .nil))) ih
theorem rrow_rd {r : Row} {v : L2.V} (x : RRow K H r v) : RD K H μ (rowD r) v := by
  obtain ⟨a, vs, e, h, q⟩ := x
  subst e
  exact .tup h (rprs_rd q)
theorem rrows_rd {rs : List Row} {vs : List L2.V} (x : PySem.Paired (RRow K H) rs vs) : RDs K H μ (rs.map rowD) vs := by
  induction x with
  | nil => exact .nil
  | cons a _ ih => exact .cons (rrow_rd a) ih
theorem rrows_step {H' : Hp} {rs : List Row} {vs : List L2.V} (m : Im H H') (x : PySem.Paired (RRow K H) rs vs) : PySem.Paired (RRow K H') rs vs := by
  induction x with
  | nil => exact .nil
  | cons a _ ih => exact .cons (a.step m) ih
theorem rowsOf_ok : ∀ {ds : List D} {vs : List L2.V} {rs : List Row}, RDs K H μ ds vs → rowsOf ds = some rs → ∃ ps : List (Row × Addr), ps.map (·.1) = rs ∧ vs = plcs ps ∧ ∀ p ∈ ps, RRow K H p.1 (.ref p.2)
  | [], _, _, h, e => by
    cases e
    cases h
    exact ⟨[], rfl, rfl, fun p hp => by cases hp⟩
  | d :: ds, _, _, h, e => by
    cases h with
    | cons x y =>
      unfold rowsOf at e
      split at e
      · rename_i r rs e1 e2
        cases e
        obtain ⟨ps, f1, f2, f3⟩ := rowsOf_ok y e2
        have z := rowOf_ok x e1
        obtain ⟨a, vs, ev, _⟩ := id z
        subst ev
        refine ⟨(r, a) :: ps, by rw [List.map_cons, f1], by rw [f2]; rfl, fun p hp => ?_⟩
        rcases List.mem_cons.mp hp with c | c
        · subst c; exact z
        · exact f3 p c
      · cases e
end
section
variable {RX : RXT} {C : Ctx} {call : Nat → List D → Store → Res R} {m : Nm} {X : Cx} {W : WX}
theorem sTidy (st : Site RX C call m X W) {a : E} {i k : Nat} {itr : Expr} {p0 p1 p2 p3 p4 p5 p6 p7 : Pos} (g1 : isG m "tuple" = true) (g2 : isG m "sorted" = true) (ok : L2.blkC m.N m.sc (m.scp k) [(nmOf m.N i, i)] = true) (ia : isA (m.in (m.scp k)) i = true) (iv : isV (m.in (m.scp k)) i = true)
    (hl : PE X itr (tE RX X.K W (evE C call a))) (hs : ∀ v, foldedSetIterable itr X.env v = pure v) :
    Snd RX X W (.Call (.Name "tuple" p1) [.Call (.Name "sorted" p3) [.DictComp (.Name (nmOf m.N i) p6) (.Constant (.bool true) 0 p7) [⟨.Name (nmOf m.N i) p5, itr, [], 0⟩] (m.scp k) p4] [] p2] [] p0) (evE C call (.tidy a i k)) := by
  have un := st.un
  have P1 := pe_dic (po := p4) (kx := .Name (nmOf m.N i) p6) (vx := .Constant (.bool true) 0 p7) (tg := .Name (nmOf m.N i) p5) st.calm (by rw [st.nN]; exact st.nd) (by omega) (blkOk_by (by rw [st.nN, st.sc]; exact ok)) hl hs
    (fun s H Ce cl fr => by
      have st' := st.blk (m.scp k) s H Ce cl fr
      obtain ⟨h1, h2, h3, _⟩ := st'.a ia
      exact pg_name (i := i) (by rw [st'.nN]; exact st'.nd) h1 h2 h3)
    (fun s H Ce cl fr => by
      obtain ⟨h1, h2, h3, h4, _⟩ := (st.blk (m.scp k) s H Ce cl fr).v iv
      exact pe_var (i := i) h1 h2 h3 h4)
    (fun s H Ce cl fr => pe_bl)
  obtain ⟨q1, q2, q3⟩ := st.g g2
  have P2 : PE X (.Call (.Name "sorted" p3) [.DictComp (.Name (nmOf m.N i) p6) (.Constant (.bool true) 0 p7) [⟨.Name (nmOf m.N i) p5, itr, [], 0⟩] (m.scp k) p4] [] p2) _ := pe_callB (cr_sortedD st.calm (by omega)) q1 (st.b (x := "sorted") (by decide +kernel)) (by decide +kernel) (pa_cons P1 pa_nil (by rfl)) q3 q2 (by rfl) rfl
  refine both ((pe_bi1 (p := p1) (pos := p0) st .tuple (call_bi1 (RX := RX) st.calm st.gd st.un .tuple) g1 (pa_cons P2 pa_nil (by rfl)) (by rfl)).imp fun σ H Q hq => ?_) (by intro _; rfl)
  obtain ⟨ρ, μ, S, t, r, h⟩ := hq
  rw [evE] at h
  refine seqE .refl t r h fun x S1 H1 μ1 v st1 s1 t1 r1 hx h1 => ?_
  obtain ⟨ds, e, h2⟩ := h1.opt
  unfold tidyOf at e
  split at e
  · rename_i b es hse
    split at e
    · rename_i rs hrs
      split at e
      · rename_i hne
        cases e
        obtain ⟨pl, vs, ev, hw, hrd⟩ := seq_any t1 hx hse
        obtain ⟨ps, f1, f2, f3⟩ := rowsOf_ok hrd hrs
        subst ev
        subst f2
        obtain ⟨n1, n2, n3, n4⟩ := gath_ok ps [] List.nodup_nil
        refine ⟨pl, ps, rfl, hw, f3, fun D hD => ?_⟩
        have g0 : ∀ a o, H1 a = some o → (upd H1 D (dicO X.prog X.w D (gath [] ps))) a = some o := grow_upd hD
        refine ⟨D, gath [] ps, rfl, upd_same, fun p hp => ?_, n1, fun out p ho hp => ?_⟩
        · have hp' : p ∈ ps := (n3 p hp).elim (fun z => by cases z) id
          refine ⟨(f3 p hp').step (im_grow g0), fun z => ?_⟩
          have w : p.1 ∈ rs := by rw [← f1]; exact List.mem_map_of_mem hp'
          have w2 := List.all_eq_true.mp hne _ w
          rw [z] at w2
          cases w2
        · have e2 : tidyR ((gath [] ps).map (·.1)) = tidyR rs := tidyR_congr fun z => by
            rw [n4 z, f1]
            simp
          rw [e2] at ho
          have hpD : H1 p = none := by
            by_cases c : p = D
            · rw [c]; exact hD
            · rw [upd_ne c] at hp; exact hp
          have s2 : Step H1 μ1 (upd (upd H1 D (dicO X.prog X.w D (gath [] ps))) p (.lst out)) μ1 := (StepD.grow g0).trans (StepD.grow (grow_upd hp))
          have np : p ∉ μ1 := not_in (t1.grow g0) hp
          refine ⟨_, H, μ, μ1, S1, .t ((tidyR rs).map rowD), .ref p, rfl, st1.trans s2, (t1.grow g0).grow (grow_upd hp), ⟨p, out, rfl, st1.live p hpD, upd_same, np, rrows_rd ?_⟩, h2⟩
          exact rrows_step (im_grow (grow_upd hp)) ho
      · cases e
    · cases e
  · cases e
end
end Q
end
section
-- Snd14
set_option Elab.async false
set_option linter.all false
set_option maxRecDepth 100000
set_option maxHeartbeats 4000000
namespace Q
open PySem PySem.Spec PyProof.Rows L2

section
variable {RX : RXT} {C : Ctx} {call : Nat → List D → Store → Res R}
theorem oNo {X : Cx} {W : WX} : PO X none (tO RX X.K W (evB C call .no)) := po_none.imp fun σ H Q hq => by
  obtain ⟨ρ, μ, S, t, r, h⟩ := hq
  rw [evB] at h
  exact h H μ .refl t
theorem oSo {X : Cx} {W : WX} {e : E} {ee : Expr} (h : PE X ee (tE RX X.K W (evE C call e))) : PO X (some ee) (tO RX X.K W (evB C call (.so e))) := (po_some h).imp fun σ H Q hq => by
  obtain ⟨ρ, μ, S, t, r, h⟩ := hq
  rw [evB] at h
  refine seqE .refl t r h fun x S1 H1 μ1 v st1 s1 t1 r1 hx h1 => ?_
  split at h1
  · have e := rd_int hx
    subst e
    exact ⟨_, rfl, h1 H1 μ1 st1 t1⟩
  · exact h1.elim
theorem cNo {X : Cx} {W : WX} : PTs X [] (tT RX X.K W (evC C call .no)) := pts_nil.imp fun σ H Q hq => by
  obtain ⟨ρ, μ, S, t, r, h⟩ := hq
  rw [evC] at h
  exact h H μ .refl t
theorem cSo {X : Cx} {W : WX} {e : E} {ee : Expr} (h : PT X ee (tT RX X.K W fun ρ S => tru (evE C call e ρ S))) : PTs X [ee] (tT RX X.K W (evC C call (.so e))) := (pts_one h).imp fun σ H Q hq => by
  obtain ⟨ρ, μ, S, t, r, h⟩ := hq
  rw [evC] at h
  exact ⟨ρ, μ, S, t, r, h⟩
theorem and3 {a b c : Bool} (h : (a && b && c) = true) : a = true ∧ b = true ∧ c = true := by
  rw [Bool.and_eq_true, Bool.and_eq_true] at h
  exact ⟨h.1.1, h.1.2, h.2⟩
theorem and2 {a b : Bool} (h : (a && b) = true) : a = true ∧ b = true := by
  rw [Bool.and_eq_true] at h
  exact h
mutual
theorem sE : ∀ (e : E) (m : Nm) (X : Cx) (W : WX) (ps : PL), Site RX C call m X W → kE m e = true → Snd RX X W (pE m e ps).1 (evE C call e)
  | .non, m, X, W, ps, st, h => by
    rw [pE]
    have := sConst (RX := RX) (X := X) (W := W) (d := .non) (e := .Constant .none 0 (hd ps)) pe_non (fun _ _ => .non) (by intro _; rfl)
    have e1 : evE C call .non = fun _ S => .ok (.v .non) S := by funext ρ S; rw [evE]
    rw [e1]
    exact this
  | .bl b, m, X, W, ps, st, h => by
    rw [pE]
    have := sConst (RX := RX) (X := X) (W := W) (d := .bl b) (e := .Constant (.bool b) 0 (hd ps)) pe_bl (fun _ _ => .bl b) (by intro _; rfl)
    have e1 : evE C call (.bl b) = fun _ S => .ok (.v (.bl b)) S := by funext ρ S; rw [evE]
    rw [e1]
    exact this
  | .int i, m, X, W, ps, st, h => by
    rw [pE]
    have := sConst (RX := RX) (X := X) (W := W) (d := .int i) (e := .Constant (.int i) 0 (hd ps)) pe_int (fun _ _ => .int i) (by intro _; rfl)
    have e1 : evE C call (.int i) = fun _ S => .ok (.v (.int i)) S := by funext ρ S; rw [evE]
    rw [e1]
    exact this
  | .str x, m, X, W, ps, st, h => by
    rw [pE]
    have := sConst (RX := RX) (X := X) (W := W) (d := .str x) (e := .Constant (.str x) 0 (hd ps)) pe_str (fun _ _ => .str x) (by intro _; rfl)
    have e1 : evE C call (.str x) = fun _ S => .ok (.v (.str x)) S := by funext ρ S; rw [evE]
    rw [e1]
    exact this
  | .var i, m, X, W, ps, st, h => by
    rw [pE]
    rw [kE] at h
    exact sVar st h
  | .glb j, m, X, W, ps, st, h => by
    rw [pE]
    exact sGlb st h
  | .tup es, m, X, W, ps, st, h => by
    rw [pE]
    rw [kE] at h
    exact sTup (sEs es m X W ps.tail st (and2 h).1).1 (Nat.ble_eq.mp (and2 h).2)
  | .lst es, m, X, W, ps, st, h => by
    rw [pE]
    rw [kE] at h
    exact sLst (sEs es m X W ps.tail st (and2 h).1).1 (Nat.ble_eq.mp (and2 h).2)
  | .bin o a b, m, X, W, ps, st, h => by
    rw [pE]
    rw [kE] at h
    exact sBin (sE a m X W _ st (and2 h).1) (sE b m X W _ st (and2 h).2)
  | .neg a, m, X, W, ps, st, h => by
    rw [pE]
    rw [kE] at h
    exact sNeg (sE a m X W _ st h)
  | .not a, m, X, W, ps, st, h => by
    rw [pE]
    rw [kE] at h
    exact sNot (sE a m X W _ st h)
  | .cmp o a b, m, X, W, ps, st, h => by
    rw [pE]
    rw [kE] at h
    exact sCmp st.un (sE a m X W _ st (and2 h).1) (sE b m X W _ st (and2 h).2) (no_mark o m b _)
  | .chn o o' a b c, m, X, W, ps, st, h => by
    rw [pE]
    rw [kE] at h
    obtain ⟨h1, h2, h3⟩ := and3 h
    exact sChn st.un (sE a m X W _ st h1) (sE b m X W _ st h2) (sE c m X W _ st h3) (no_mark o' m c _)
  | .bop o es, m, X, W, ps, st, h => by
    rw [pE]
    rw [kE] at h
    have e1 : evE C call (.bop o es) = evBop C call o es := by funext ρ S; rw [evE]
    rw [e1]
    obtain ⟨h1, h2⟩ := (sEs es m X W ps.tail st (and2 h).1).2 o (hd ps) (and2 h).2
    exact ⟨h1, h2.pt⟩
  | .ife c a b, m, X, W, ps, st, h => by
    rw [pE]
    rw [kE] at h
    obtain ⟨h1, h2, h3⟩ := and3 h
    exact sIfe (sE c m X W _ st h1) (sE a m X W _ st h2) (sE b m X W _ st h3)
  | .idx a i, m, X, W, ps, st, h => by
    rw [pE]
    rw [kE] at h
    exact sIdx (sE a m X W _ st (and2 h).1) (sE i m X W _ st (and2 h).2)
  | .slc a lo hi, m, X, W, ps, st, h => by
    rw [pE]
    rw [kE] at h
    obtain ⟨h1, h2, h3⟩ := and3 h
    exact sSlc (sE a m X W _ st h1) (sEo lo m X W _ st h2).1 (sEo hi m X W _ st h3).1
  | .rev a, m, X, W, ps, st, h => by
    rw [pE]
    rw [kE] at h
    exact sRev (sE a m X W _ st h)
  | .call f es, m, X, W, ps, st, h => by
    rw [pE]
    have h' := h
    rw [kE] at h'
    exact sCall st h (sEs es m X W _ st (and3 h').2.1).1
  | .bi1 b a, m, X, W, ps, st, h => by
    rw [pE]
    rw [kE] at h
    exact sBi1 st b (and2 h).1 (sE a m X W _ st (and2 h).2)
  | .bi2 b a c, m, X, W, ps, st, h => by
    rw [pE]
    rw [kE] at h
    obtain ⟨h1, h2, h3⟩ := and3 h
    exact sBi2 st b h1 (sE a m X W _ st h2) (sE c m X W _ st h3)
  | .isi a t, m, X, W, ps, st, h => by
    rw [pE]
    rw [kE] at h
    obtain ⟨h1, h2, h3⟩ := and3 h
    exact sIsi st h1 h2 (sE a m X W _ st h3)
  | .isiT a ts, m, X, W, ps, st, h => by
    rw [pE]
    rw [kE] at h
    obtain ⟨h1, h3⟩ := and2 h
    obtain ⟨h1, h4⟩ := and2 h1
    obtain ⟨h1, h5, h6⟩ := and3 h1
    exact sIsiT st h1 h5 h6 (Nat.ble_eq.mp h4) (sE a m X W _ st h3)
  | .met k o a, m, X, W, ps, st, h => by
    rw [pE]
    rw [kE] at h
    obtain ⟨h1, h2, h3⟩ := and3 h
    cases k with
    | append => exact sMet st h1 (sE o m X W _ st h2) (sE a m X W _ st h3)
  | .dct0, m, X, W, ps, st, h => by
    rw [pE]
    exact sDct0
  | .lc elt tg it c k, m, X, W, ps, st, h => by
    rw [pE]
    rw [kE] at h
    obtain ⟨h, k1⟩ := and2 h
    obtain ⟨h, k2⟩ := and2 h
    obtain ⟨h, k3⟩ := and2 h
    obtain ⟨h, k4⟩ := and2 h
    obtain ⟨h, k5⟩ := and2 h
    obtain ⟨k7, k6⟩ := and2 h
    exact sLc st (sI it m X W ps.tail st k7 (m.in (m.scp k)) tg _ k6) (fun env x => no_fold env m it _ x) k4
      (fun X' e st' => e ▸ sT tg (m.in (m.scp k)) X' _ _ st' k3) (fun X' e st' => e ▸ (sEo c (m.in (m.scp k)) X' _ _ st' k2).2) (fun X' e st' => e ▸ (sE elt (m.in (m.scp k)) X' _ _ st' k1).1)
  | .flc elt tg it c k, m, X, W, ps, st, h => by
    rw [pE]
    rw [kE] at h
    obtain ⟨h, k1⟩ := and2 h
    obtain ⟨h, k2⟩ := and2 h
    obtain ⟨h, k3⟩ := and2 h
    obtain ⟨h, k4⟩ := and2 h
    obtain ⟨h, k5⟩ := and2 h
    obtain ⟨k7, k6⟩ := and2 h
    rw [flc_eq]
    refine both (frzPE ?_) (by intro _; rfl)
    exact (sLc st (sI it m X W ps.tail st k7 (m.in (m.scp k)) tg _ k6) (fun env x => no_fold env m it _ x) k4
      (fun X' e st' => e ▸ sT tg (m.in (m.scp k)) X' _ _ st' k3) (fun X' e st' => e ▸ (sEo c (m.in (m.scp k)) X' _ _ st' k2).2) (fun X' e st' => e ▸ (sE elt (m.in (m.scp k)) X' _ _ st' k1).1)).1
  | .flst es, m, X, W, ps, st, h => by
    rw [pE]
    rw [kE] at h
    exact sFlst (sEs es m X W ps.tail st (and2 h).1).1 (Nat.ble_eq.mp (and2 h).2)
  | .fdct, m, X, W, ps, st, h => by
    rw [pE]
    exact sFdct
  | .flsc a, m, X, W, ps, st, h => by
    rw [pE]
    rw [kE, Bool.and_eq_true] at h
    exact sFlsc st h.1 (sE a m X W _ st h.2)
  | .callF f es, m, X, W, ps, st, h => by
    rw [pE]
    have h' := h
    rw [kE] at h'
    exact sCallF st h (sEs es m X W _ st (and2 h').2).1
  | .tidy a i k, m, X, W, ps, st, h => by
    rw [pE]
    rw [kE] at h
    obtain ⟨h, k1⟩ := and2 h
    obtain ⟨h, k2⟩ := and2 h
    obtain ⟨h, k3⟩ := and2 h
    obtain ⟨h, k4⟩ := and2 h
    obtain ⟨k6, k5⟩ := and2 h
    exact sTidy st k6 k5 k3 k2 k1 (sE a m X W _ st k4).1 (no_fold X.env m (.seq a) _)
  | .fld _ _, m, X, W, ps, st, h => by
    rw [kE] at h
    cases h
  | .mth _ _ _, m, X, W, ps, st, h => by
    rw [kE] at h
    cases h
  | .new _ _, m, X, W, ps, st, h => by
    rw [kE] at h
    cases h
  | .lwd w j is, m, X, W, ps, st, h => by
    have ht : m.top = true := by
      rw [kE] at h
      simp only [Bool.and_eq_true] at h
      exact h.1.1.1
    refine both (st.wl ht w j is ps h) ?_
    rw [pE]
    intro _
    rfl
  | .fbin o a b, m, X, W, ps, st, h => by
    rw [pE]
    rw [kE] at h
    exact sFbin (sE a m X W _ st (and2 h).1) (sE b m X W _ st (and2 h).2)
  | .fslc a lo hi, m, X, W, ps, st, h => by
    rw [pE]
    rw [kE] at h
    obtain ⟨h1, h2, h3⟩ := and3 h
    exact sFslc (sE a m X W _ st h1) (sEo lo m X W _ st h2).1 (sEo hi m X W _ st h3).1
  | .fcall f es, m, X, W, ps, st, h => by
    rw [pE]
    have h' := h
    rw [kE] at h'
    exact sFcall st (by rw [kE]; exact h') (sEs es m X W _ st (and2 h').2).1
  | .calv i es, m, X, W, ps, st, h => by
    rw [pE]
    have h' := h
    rw [kE] at h'
    exact sCalV st h (sEs es m X W _ st (and3 h').2.1).1
  | .words w i x k, m, X, W, ps, st, h => by
    have ht : m.top = true := by
      rw [kE] at h
      simp only [Bool.and_eq_true] at h
      exact h.1.1.1.1.1
    refine both (st.wd ht w i x k ps h) ?_
    rw [pE]
    intro _
    rfl
theorem sEs : ∀ (es : Es) (m : Nm) (X : Cx) (W : WX) (ps : PL), Site RX C call m X W → kEs m es = true → PA X (pEs m es ps).1 (tA RX X.K W (evEs C call es)) ∧
    ∀ (o : BoolOp) (p : Pos), Nat.blt 0 es.len = true → PE X (.BoolOp o (pEs m es ps).1 p) (tE RX X.K W (evBop C call o es)) ∧ PW X (.BoolOp o (pEs m es ps).1 p) (tT RX X.K W fun ρ S => tru (evBop C call o es ρ S))
  | .nil, m, X, W, ps, st, h => by
    refine ⟨?_, fun o p z => by cases z⟩
    rw [pEs]
    refine pa_nil.imp fun σ H Q hq => ?_
    obtain ⟨ρ, μ, S, t, r, h⟩ := hq
    rw [evEs] at h
    exact h H μ .refl t _ .nil
  | .cons e r, m, X, W, ps, st, h => by
    rw [kEs] at h
    obtain ⟨h1, h2⟩ := and2 h
    have a1 := sE e m X W ps st h1
    have a2 := sEs r m X W (pE m e ps).2 st h2
    rw [pEs]
    refine ⟨(pa_cons a1.1 a2.1 (star_cons _ m e ps _)).imp fun σ H Q hq => ?_, fun o p _ => ?_⟩
    · obtain ⟨ρ, μ, S, t, r0, h⟩ := hq
      rw [evEs] at h
      refine seqE .refl t r0 h fun x S1 H1 μ1 v st1 s1 t1 r1 hx h1 => ?_
      obtain ⟨d, S2, μ2, way, t2, rd, hix, hmem, h2⟩ := settle2 t1 hx h1
      have st2 : Step H μ H1 μ2 := way _ _ _ st1 fun _ z => z
      have s2 : Step H μ H1 μ2 := way _ _ _ s1 fun _ z => z
      exact seqA st2 t2 (r0.step s2) h2 fun ds S3 H3 μ3 vs st3 s3 t3 r3 hv e h3 => h3 H3 μ3 st3 t3 _ (.cons (rd.step s3) hv)
    · cases r with
      | nil =>
        have e1 : (pEs m .nil (pE m e ps).2).1 = [] := by rw [pEs]
        rw [e1]
        exact sBop1 o a1
      | cons e' r' =>
        have e1 : (pEs m (.cons e' r') (pE m e ps).2).1 = (pE m e' (pE m e ps).2).1 :: (pEs m r' (pE m e' (pE m e ps).2).2).1 := by rw [pEs]
        have a3 := a2.2 o p rfl
        rw [e1] at a3 ⊢
        exact sBop2 o a1 a3
theorem sEo : ∀ (o : Eo) (m : Nm) (X : Cx) (W : WX) (ps : PL), Site RX C call m X W → kEo m o = true → PO X (pEo m o ps).1 (tO RX X.K W (evB C call o)) ∧ PTs X (pEo m o ps).1.toList (tT RX X.K W (evC C call o))
  | .no, m, X, W, ps, st, h => by
    rw [pEo]
    exact ⟨oNo, cNo⟩
  | .so e, m, X, W, ps, st, h => by
    rw [pEo]
    rw [kEo] at h
    have a := sE e m X W ps st h
    exact ⟨oSo a.1, cSo a.2⟩
theorem sT : ∀ (t : T) (m : Nm) (X : Cx) (W : WX) (ps : PL), Site RX C call m X W → kT m t = true → PG X (pT m t ps).1 (tG RX X.K t.slots (asT C call t))
  | .nm i, m, X, W, ps, st, h => by
    rw [pT]
    rw [kT] at h
    exact sNm st h
  | .tp ts, m, X, W, ps, st, h => by
    rw [pT]
    rw [kT] at h
    exact sTp st (sTs ts m X W ps.tail st h)
  | .sb o i, m, X, W, ps, st, h => by
    rw [pT]
    rw [kT] at h
    exact sSb (sE o m X W _ st (and2 h).1) (sE i m X W _ st (and2 h).2)
  | .fa _ _, m, X, W, ps, st, h => by
    rw [kT] at h
    cases h
theorem sTs : ∀ (ts : Ts) (m : Nm) (X : Cx) (W : WX) (ps : PL), Site RX C call m X W → kTs m ts = true → PGs X (pTs m ts ps).1 (tGs RX X.K ts.slots (asTs C call ts))
  | .nil, m, X, W, ps, st, h => by
    rw [pTs]
    exact sTsNil
  | .cons t r, m, X, W, ps, st, h => by
    rw [pTs]
    rw [kTs] at h
    exact sTsCons (sT t m X W ps st (and2 h).1) (sTs r m X W _ st (and2 h).2)
theorem sI : ∀ (it : It) (m : Nm) (X : Cx) (W : WX) (ps : PL), Site RX C call m X W → kI m it = true → ∀ (m' : Nm) (tg : T) (qs : PL), okTI tg it = true → PI X (pT m' tg qs).1 (pI m it ps).1 (iI RX X.K W (evI C call it))
  | .seq e, m, X, W, ps, st, h, m', tg, qs, ok => by
    rw [pI]
    rw [kI] at h
    exact iSeqI (sE e m X W ps st h).1
  | .rng1 a, m, X, W, ps, st, h, m', tg, qs, ok => by
    rw [pI]
    rw [kI] at h
    exact iRng1I st (and2 h).1 (sE a m X W _ st (and2 h).2).1
  | .rng2 a c, m, X, W, ps, st, h, m', tg, qs, ok => by
    rw [pI]
    rw [kI] at h
    obtain ⟨h1, h2, h3⟩ := and3 h
    exact iRng2I st h1 (sE a m X W _ st h2).1 (sE c m X W _ st h3).1
  | .zip a c, m, X, W, ps, st, h, m', tg, qs, ok => by
    rw [pI]
    rw [kI] at h
    obtain ⟨h1, h2, h3⟩ := and3 h
    cases tg with
    | tp ts =>
      rw [pT]
      exact iZipI st h1 (sE a m X W _ st h2).1 (sE c m X W _ st h3).1
    | _ => cases ok
  | .enum a, m, X, W, ps, st, h, m', tg, qs, ok => by
    rw [pI]
    rw [kI] at h
    cases tg with
    | tp ts =>
      rw [pT]
      exact iEnumI st (and2 h).1 (sE a m X W _ st (and2 h).2).1
    | _ => cases ok
end
end
end Q
end
section
-- Snd15
set_option Elab.async false
set_option linter.all false
set_option maxRecDepth 100000
set_option maxHeartbeats 4000000
namespace Q
open PySem PySem.Spec PyProof.Rows L2

/-! ### statements -/
/-- how a pair is stored -/
def Sw (kind : Str → Option NameKind) (ts vs : List Expr) : Option (Option (List Str)) :=
  if !(ts.length == 2 || ts.length == 3) || vs.length != ts.length then some none else
  if vs.any (fun | .Starred .. => true | _ => false) then some none else
  if (ts.filterMap fun | .Name id pos => if kind id == some .local && pos.line == (ts.head?.map (·.pos.line)).getD 0 then some id else none | _ => none).length != ts.length || (ts.filterMap fun | .Name id pos => if kind id == some .local && pos.line == (ts.head?.map (·.pos.line)).getD 0 then some id else none | _ => none).eraseDups.length != (ts.filterMap fun | .Name id pos => if kind id == some .local && pos.line == (ts.head?.map (·.pos.line)).getD 0 then some id else none | _ => none).length then some none else
  if vs.all (foldedForSure 8) then some none else
  if vs.all (constantsAlone 8) then none else
  some (some (ts.filterMap fun | .Name id pos => if kind id == some .local && pos.line == (ts.head?.map (·.pos.line)).getD 0 then some id else none | _ => none))
theorem sw_of {env : PySem.Env} {ts vs : List Expr} {k k2 : Nat} {p p2 : Pos} {r : Option (List Str)} (hb : env.blockKind = .function) (e : Sw (fun x => env.kindOf x) ts vs = some r) : swappedStores [.Tuple ts k p] (.Tuple vs k2 p2) env = pure r := by
  unfold Sw at e
  unfold swappedStores
  rw [hb]
  dsimp only
  have e0 : (ScopeKind.function != ScopeKind.function) = false := rfl
  rw [e0, Bool.or_false]
  by_cases h : (!(ts.length == 2 || ts.length == 3) || vs.length != ts.length) = true
  · rw [if_pos h] at e ⊢
    cases e
    rfl
  · rw [if_neg h] at e ⊢
    split at e
    · rename_i h2
      cases e
      exact if_pos h2
    · rename_i h2
      refine (if_neg h2).trans ?_
      split at e
      · rename_i h3
        cases e
        exact if_pos h3
      · rename_i h3
        refine (if_neg h3).trans ?_
        split at e
        · rename_i h4
          cases e
          exact if_pos h4
        · rename_i h4
          refine (if_neg h4).trans ?_
          split at e
          · cases e
          · rename_i h5
            cases e
            exact if_neg h5
def kindIn (m : Nm) : Str → Option NameKind := fun x => m.sc.names.lookup x
def isLoc (m : Nm) (i : Nat) : Bool := Nat.blt i m.N.length && m.sc.names.lookup (nmOf m.N i) == some .local && !(m.cs.contains i)
def notWd : E → Bool
  | .words _ _ _ _ => false
  | _ => true
def asgOk (m : Nm) (t : T) (e : E) (ps : PL) : Bool := notWd e && match t with
  | .tp ts => match e with
    | .tup es => decide (Sw (kindIn m) (pTs m ts ps.tail.tail).1 (pEs m es (pT m (.tp ts) ps.tail).2.tail).1 = some none)
    | _ => true
  | _ => true
def augOk : Operator → Bool
  | .Add => true
  | .Sub => true
  | _ => false
def notLc : E → Bool
  | .lc _ _ _ _ _ => false
  | .flc _ _ _ _ _ => false
  | .words _ _ _ _ => false
  | _ => true
/-- a slot of lambdas may be stored to -/
def isC (m : Nm) (i : Nat) : Bool := Nat.blt i m.N.length && m.sc.names.lookup (nmOf m.N i) == some .local && m.cs.contains i && m.top
/-- an error without a field is made of a text -/
def rOk (m : Nm) (c : Nat) (e : E) : Bool := match m.exk[c]? with
  | some true => true
  | some false => (match e with
    | .str _ => true
    | _ => false)
  | none => false
mutual
def kS : Nm → S → PL → Bool
  | m, .asg t e, ps => kT m t && kE m e && asgOk m t e ps
  | m, .par2 i j a b, ps => kE m a && kE m b && isLoc m i && isLoc m j && !(i == j) &&
      decide (Sw (kindIn m) [.Name (nmOf m.N i) (hd (ps.drop 2)), .Name (nmOf m.N j) (hd (ps.drop 3))] [(pE m a (ps.drop 5)).1, (pE m b (pE m a (ps.drop 5)).2).1] = some (some [nmOf m.N i, nmOf m.N j]))
  | m, .par3 i j k a b c, ps => kE m a && kE m b && kE m c && isLoc m i && isLoc m j && isLoc m k && !(i == j) && !(i == k) && !(j == k) &&
      decide (Sw (kindIn m) [.Name (nmOf m.N i) (hd (ps.drop 2)), .Name (nmOf m.N j) (hd (ps.drop 3)), .Name (nmOf m.N k) (hd (ps.drop 4))] [(pE m a (ps.drop 6)).1, (pE m b (pE m a (ps.drop 6)).2).1, (pE m c (pE m b (pE m a (ps.drop 6)).2).2).1] = some (some [nmOf m.N i, nmOf m.N j, nmOf m.N k]))
  | m, .aug i o e, ps => isA m i && kE m e && augOk o
  | m, .expr e, ps => kE m e && notLc e
  | m, .ife c a b, ps => kE m c && kSs m a (pE m c ps.tail).2 && kSs m b (pSs m a (pE m c ps.tail).2).2
  | m, .whl c b, ps => kE m c && kSs m b (pE m c ps.tail).2
  | m, .for t it b, ps => kT m t && kI m it && okTI t it && kSs m b (pI m it (pT m t ps.tail).2).2
  | m, .ret e, ps => kE m e
  | _, .ret0, _ => true
  | _, .pass, _ => true
  | _, .brk, _ => true
  | _, .cont, _ => true
  | _, .hole _, _ => true
  | m, .clos i js, _ => isC m i && js.all (fun j => Nat.ble m.lb j && (m.lam[j - m.lb]?).isSome) && Nat.ble js.length 5000 && !js.isEmpty
  | m, .raise c e, _ => kE m e && Nat.blt c m.ex.length && isG m (nmOf m.ex c) && rOk m c e
  | m, .forF i fs b, ps => isFa m i && fs.all (fun f => (m.fn[f]?).isSome && isG m (fnOf m.fn f)) && Nat.ble fs.length 5000 && kSs m b (ps.drop (3 + fs.length))
def kSs : Nm → Ss → PL → Bool
  | _, .nil, _ => true
  | m, .cons s r, ps => kS m s ps && kSs m r (pS m s ps).2
end
/-- what is wanted behind -/
def Fin (lp : LP) (K : PySem.W.Frag) (D : Ends) (Hb : Hp) : Fl → Store → Hp → List Addr → Prop
  | .nx ρ, _, H, μ => ∀ σ, RE lp K H μ ρ σ → D.nx σ H
  | .rt r, _, H, μ => ∀ v, RR K Hb H μ r v → D.rt v H
  | .bk ρ, _, H, μ => ∀ σ, RE lp K H μ ρ σ → D.bk σ H
  | .ct ρ, _, H, μ => ∀ σ, RE lp K H μ ρ σ → D.ct σ H
def tSS (RX : RXT) (K : PySem.W.Frag) (Ex : XK) (f : Env → Store → Res Fl) : TS := fun D σ H => ∃ ρ μ S, SR K H μ S ∧ RE RX.lp K H μ ρ σ ∧ Out RX K Ex H μ (f ρ S) (Fin RX.lp K D H)
structure SiteS (RX : RXT) (C : Ctx) (call : Nat → List D → Store → Res R) (m : Nm) (X : Cx) (W : WX) (Ex : XK) : Prop extends Site RX C call m X W where
  bk : X.env.blockKind = .function
  po : PassesOwn (model X.prog X.w) X.A X.env X.xe
  hE : ∀ σ c d H, Ex c d H → W c d σ H
  cl : m.top = true → ∀ (i : Nat) (js : List Nat) (ps : PL), kS m (.clos i js) ps = true → PS X (pS m (.clos i js) ps).1 (tSS RX X.K Ex (evS C call (.clos i js)))
  rs : ∀ (c : Nat) (e : E) (ps : PL), kS m (.raise c e) ps = true → PS X (pS m (.raise c e) ps).1 (tSS RX X.K Ex (evS C call (.raise c e)))
section
variable {RX : RXT} {C : Ctx} {call : Nat → List D → Store → Res R} {m : Nm} {X : Cx} {W : WX} {Ex : XK}
variable {K : PySem.W.Frag} {H H0 : Hp} {μ μ0 : List Addr} {S : Store} {ρ : Env} {σ : L2.St} {β : Type} {p : β → Store → Hp → List Addr → Prop}
theorem seqEE (hE : ∀ σ c d H, Ex c d H → W c d σ H) {f : Env → Store → Res R} {g : R → Store → Res β} {Q : VK} (st : Step H0 μ0 H μ) (t : SR K H μ S) (r : RE RX.lp K H μ ρ σ) (h : Out RX K Ex H0 μ0 ((f ρ S).bind g) p)
    (k : ∀ a S1 H1 μ1 v, Step H0 μ0 H1 μ1 → Step H μ H1 μ1 → SR K H1 μ1 S1 → RE RX.lp K H1 μ1 ρ σ → RR K H H1 μ1 a v → Out RX K Ex H0 μ0 (g a S1) p → Q v H1) : tE RX K W f σ H Q :=
  ⟨ρ, μ, S, t, r, ((Out.bind st h).impE (hE σ)).imp fun a S1 H1 μ1 s1 t1 ⟨st1, _, _, h1⟩ v hv => k a S1 H1 μ1 v st1 s1 t1 (r.step s1) hv h1⟩
theorem seqTE (hE : ∀ σ c d H, Ex c d H → W c d σ H) {f : Env → Store → Res Bool} {g : Bool → Store → Res β} {Q : Bool → Hp → Prop} (st : Step H0 μ0 H μ) (t : SR K H μ S) (r : RE RX.lp K H μ ρ σ) (h : Out RX K Ex H0 μ0 ((f ρ S).bind g) p)
    (k : ∀ a S1 H1 μ1, Step H0 μ0 H1 μ1 → Step H μ H1 μ1 → SR K H1 μ1 S1 → RE RX.lp K H1 μ1 ρ σ → Out RX K Ex H0 μ0 (g a S1) p → Q a H1) : tT RX K W f σ H Q :=
  ⟨ρ, μ, S, t, r, ((Out.bind st h).impE (hE σ)).imp fun a S1 H1 μ1 s1 t1 ⟨st1, _, _, h1⟩ => k a S1 H1 μ1 st1 s1 t1 (r.step s1) h1⟩
theorem seqIE (hE : ∀ σ c d H, Ex c d H → W c d σ H) {f : Env → Store → Res Iter} {g : Iter → Store → Res β} {Q : L2.It → Hp → Prop} (st : Step H0 μ0 H μ) (t : SR K H μ S) (r : RE RX.lp K H μ ρ σ) (h : Out RX K Ex H0 μ0 ((f ρ S).bind g) p)
    (k : ∀ a S1 H1 μ1, Step H0 μ0 H1 μ1 → Step H μ H1 μ1 → SR K H1 μ1 S1 → RE RX.lp K H1 μ1 ρ σ → Out RX K Ex H0 μ0 (g a S1) p → Lens K H1 → ∀ J, ItR K H1 μ1 a J → Q J H1) : iI RX K W f σ H Q :=
  ⟨ρ, μ, S, t, r, ((Out.bind st h).impE (hE σ)).imp fun a S1 H1 μ1 s1 t1 ⟨st1, _, _, h1⟩ ln J hJ => k a S1 H1 μ1 st1 s1 t1 (r.step s1) h1 ln J hJ⟩
theorem tru_bind {β : Type} (r : Res R) (g : Bool → Store → Res β) : (r.bind fun x S => Q.opt (truth S x) fun k => g k S) = (tru r).bind g := by
  unfold tru
  rw [Res.assoc]
  congr 1
  funext x S1
  rw [opt_bind]
  rfl
theorem Fin.base' {D : Ends} {lp : LP} {Hb Hc : Hp} {fl : Fl} (h : Fin lp K D Hc fl S H μ) (l : ∀ a, Hb a = none → Hc a = none) : Fin lp K D Hb fl S H μ := by
  cases fl with
  | rt r => exact fun v hv => h v (hv.base l)
  | _ => exact h
theorem sNever {s : Stmt} {f : Env → Store → Res Fl} (h : ∀ ρ S, f ρ S = .bad) : PS X s (tSS RX X.K Ex f) := (ps_never).imp fun D σ H hq => by
  obtain ⟨ρ, μ, S, t, r, z⟩ := hq
  rw [h] at z
  exact z.elim
theorem ssNil : PSs X [] (tSS RX X.K Ex (evSs C call .nil)) := pss_nil.imp fun D σ H hq => by
  obtain ⟨ρ, μ, S, t, r, z⟩ := hq
  rw [evSs] at z
  exact z H μ .refl t σ r
theorem ssCons {s : _root_.Q.S} {rest : Ss} {st : Stmt} {l : List Stmt} (h1 : PS X st (tSS RX X.K Ex (evS C call s))) (h2 : PSs X l (tSS RX X.K Ex (evSs C call rest))) : PSs X (st :: l) (tSS RX X.K Ex (evSs C call (.cons s rest))) := (pss_cons h1 h2).imp fun D σ H hq => by
  obtain ⟨ρ, μ, S, t, r, z⟩ := hq
  rw [evSs] at z
  refine ⟨ρ, μ, S, t, r, (Out.bind .refl z).imp fun fl S1 H1 μ1 s1 t1 ⟨_, _, _, h1⟩ => ?_⟩
  cases fl with
  | nx ρ1 => exact fun σ1 re => ⟨ρ1, μ1, S1, t1, re, (Out.at s1 h1).imp fun fl S2 H2 μ2 s2 t2 h3 => h3.base' s1.live⟩
  | rt r => exact h1 H1 μ1 s1 t1
  | bk ρ1 => exact h1 H1 μ1 s1 t1
  | ct ρ1 => exact h1 H1 μ1 s1 t1
end
end Q
end
section
-- Snd16
set_option Elab.async false
set_option linter.all false
set_option maxRecDepth 100000
set_option maxHeartbeats 4000000
namespace Q
open PySem PySem.Spec PyProof.Rows L2
section
variable {RX : RXT} {C : Ctx} {call : Nat → List D → Store → Res R} {m : Nm} {X : Cx} {W : WX} {Ex : XK}
theorem Site.nodup (st : Site RX C call m X W) : X.N.Nodup := by rw [st.nN]; exact st.nd
/-- a value, then a target -/
theorem asg_read (hE : ∀ σ c d H, Ex c d H → W c d σ H) {t : T} {e : E} {D : Ends} {σ : L2.St} {H : Hp} (hq : tSS RX X.K Ex (evS C call (.asg t e)) D σ H) : tE RX X.K W (evE C call e) σ H fun x H1 => tG RX X.K t.slots (asT C call t) x σ H1 D.nx := by
  obtain ⟨ρ, μ, S, tt, r, z⟩ := hq
  rw [evS] at z
  refine seqEE hE .refl tt r z fun x S1 H1 μ1 v st1 s1 t1 r1 hx h1 => ?_
  obtain ⟨d, S2, μ2, way, t2, rd, hix, hmem, h2⟩ := settle2 t1 hx h1
  have st2 : Step H μ H1 μ2 := way _ _ _ st1 fun _ z => z
  have r2 : RE RX.lp X.K H1 μ2 ρ σ := r.step st2
  refine ⟨d, ρ, μ2, S2, rd, t2, r2, (Out.calm (Out.at st2 h2)).imp fun ρ3 S3 H3 μ3 s3 t3 h3 σ3 re3 _ => ?_⟩
  exact h3 H3 μ3 s3 t3 σ3 re3
theorem wd_ne {e : E} (h : notWd e = true) : ∀ a b c d, e ≠ .words a b c d := fun a b c d z => by
  rw [z] at h
  cases h
theorem lc_or (e : E) : (∃ elt tg it c k, e = .lc elt tg it c k) ∨ ∀ a b c d e', e ≠ .lc a b c d e' := by
  cases e with
  | lc elt tg it c sc => exact .inl ⟨_, _, _, _, _, rfl⟩
  | _ => exact .inr fun _ _ _ _ _ z => nomatch z
theorem flc_or (e : E) : (∃ elt tg it c k, e = .flc elt tg it c k) ∨ ∀ a b c d e', e ≠ .flc a b c d e' := by
  cases e with
  | flc elt tg it c sc => exact .inl ⟨_, _, _, _, _, rfl⟩
  | _ => exact .inr fun _ _ _ _ _ z => nomatch z
theorem tE_mono {K : PySem.W.Frag} {f : Env → Store → Res R} {σ : L2.St} {H : Hp} {Q Q' : VK} (h : tE RX K W f σ H Q) (k : ∀ v H', Q v H' → Q' v H') : tE RX K W f σ H Q' := by
  obtain ⟨ρ, μ, S, t, r, h⟩ := h
  exact ⟨ρ, μ, S, t, r, h.imp fun a S' H' μ' _ _ z v hv => k v H' (z v hv)⟩
/-- what a statement stored new is frozen behind it -/
theorem frzPS {stm : Stmt} {i : Nat} {t : TS} {f : Env → Store → Res R} (h : ∀ D σ H, tE RX X.K W f σ H (fun x H1 => gName i x σ H1 D.nx) → t D σ H) (hp : PS X stm t) :
    PS X stm fun D σ H => tE RX X.K W (fun ρ S => (f ρ S).bind frzd) σ H fun x H1 => gName i x σ H1 D.nx := by
  refine ⟨fun pins s σ H D I hq => ?_⟩
  have run := hp.run pins s σ H { D with nx := fun σ' H' => D.nx σ' H' ∨ ∃ p vs, H' p = some (.lst vs) ∧ ∀ o, D.nx σ' (upd H' p (.frz o (.lst vs))) } I (h _ σ H (tE_mono (frz_tE hq) fun v H' z => ?_))
  · refine thn run fun fl s' z => ?_
    cases fl with
    | next =>
      obtain ⟨σ', H', I', z⟩ := z
      rcases z with z | ⟨p, vs, g, z⟩
      · exact ⟨σ', H', I', z⟩
      · obtain ⟨y, its, n, rr, g2⟩ := I'.hok p _ g
        exact ⟨σ', _, I'.freeze (a := p) (u := .lst vs) g True.intro g2 (fun H' x => x), z _⟩
    | brk => exact z
    | cont => exact z
    | ret u => exact z
  · rcases z with z | ⟨p, vs, ev, g, z⟩
    · exact .inl z
    · subst ev
      exact .inr ⟨p, vs, g, z⟩
theorem sAsg (st : SiteS RX C call m X W Ex) {t : T} {e : E} {ps : PL} {p : Pos} (h1 : kT m t = true) (h2 : kE m e = true) (h3 : asgOk m t e ps = true) :
    PS X (.Assign [(pT m t ps.tail).1] (pE m e (pT m t ps.tail).2).1 p) (tSS RX X.K Ex (evS C call (.asg t e))) := by
  have hT := sT t m X W ps.tail st.toSite h1
  have hE := sE e m X W (pT m t ps.tail).2 st.toSite h2
  have one : (assignEach [(pT m t ps.tail).1] X.env).map (·.2) = [assign (pT m t ps.tail).1 X.env] := by
    rw [asg_each]
    rfl
  have plain : swapsWithSole [(pT m t ps.tail).1] (pE m e (pT m t ps.tail).2).1 p.line X.env = pure false → swappedStores [(pT m t ps.tail).1] (pE m e (pT m t ps.tail).2).1 X.env = pure none → PS X (.Assign [(pT m t ps.tail).1] (pE m e (pT m t ps.tail).2).1 p) (tSS RX X.K Ex (evS C call (.asg t e))) := fun a b =>
    (ps_asg hE.1 hT a b one).imp fun D σ H hq => asg_read st.hE hq
  have noSw : swappedStores [(pT m t ps.tail).1] (pE m e (pT m t ps.tail).2).1 X.env = pure none := by
    cases t with
    | nm i => rw [pT]; cases e <;> rfl
    | sb o i => rw [pT]; cases e <;> rfl
    | fa o f => rw [kT] at h1; cases h1
    | tp ts =>
      cases e with
      | tup es =>
        have h3 := of_decide_eq_true (and2 h3).2
        have e1 : (pT m (.tp ts) ps.tail).1 = .Tuple (pTs m ts ps.tail.tail).1 0 (hd ps.tail) := by rw [pT]
        have e2 : ∀ qs, (pE m (.tup es) qs).1 = .Tuple (pEs m es qs.tail).1 0 (hd qs) := fun qs => by rw [pE]
        rw [e1, e2]
        refine sw_of st.bk ?_
        have e3 : (fun x => X.env.kindOf x) = kindIn m := by
          funext x
          show X.env.scope.names.lookup x = _
          rw [st.sc]
          rfl
        rw [e3]
        exact h3
      | _ => rw [pT]; rfl
  rcases lc_or e with ⟨elt, tg, it, c, k, ee⟩ | ne
  · subst ee
    cases t with
    | tp ts => exact plain (by rw [pT, pE]; rfl) noSw
    | sb o i => exact plain (by rw [pT, pE]; rfl) noSw
    | fa o f => rw [kT] at h1; cases h1
    | nm i =>
      cases hb : (X.env.blockKind == .function && X.env.kindOf (nmOf m.N i) == some .local && (hd ps.tail).line == (hd (pT m (.nm i) ps.tail).2).line && !((m.scp k).names.any fun (n, k) => n == nmOf m.N i && (k == .local || k == .cell))) with
      | false =>
        refine plain ?_ noSw
        rw [pT, pE]
        rw [pT] at hb
        show (pure _ : Sem Bool) = pure false
        rw [← hb]
        rfl
      | true =>
        have kl : X.env.scope.names.lookup (nmOf m.N i) = some .local := by
          rw [Bool.and_eq_true, Bool.and_eq_true, Bool.and_eq_true] at hb
          exact eq_of_beq hb.1.1.2
        rw [kT] at h1
        obtain ⟨a1, a2, a3, a4⟩ := st.toSite.a h1
        rw [pT] at hb hE ⊢
        dsimp only at hb hE ⊢
        rw [kE] at h2
        obtain ⟨h, k1⟩ := and2 h2
        obtain ⟨h, k2⟩ := and2 h
        obtain ⟨h, k3⟩ := and2 h
        obtain ⟨h, k4⟩ := and2 h
        obtain ⟨h, k5⟩ := and2 h
        obtain ⟨k7, k6⟩ := and2 h
        rw [pE]
        dsimp only
        refine (ps_setLc (te := tE RX X.K (fun _ _ _ _ => False) (evE C call elt)) (tt := tT RX X.K (fun _ _ _ _ => False) (evC C call c)) (g := tG RX X.K tg.slots (asT C call tg)) (wi := iI RX X.K W (evI C call it)) (own := ownOf m tg) st.calm st.toSite.nodup a1 kl ?_ (sI it m X W _ st.toSite k7 (m.in (m.scp k)) tg _ k6) (blkOk_by (by rw [st.nN, st.sc]; exact k4))
          (fun s H Ce cl fp => sT tg (m.in (m.scp k)) (X.blk s H (m.scp k) (compEnvC (m.scp k) cl Ce X.env) fp) _ _ (st.toSite.blk (m.scp k) s H Ce cl fp) k3) (fun s H Ce cl fp => (sEo c (m.in (m.scp k)) (X.blk s H (m.scp k) (compEnvC (m.scp k) cl Ce X.env) fp) _ _ (st.toSite.blk (m.scp k) s H Ce cl fp) k2).2)
          (fun s H Ce cl fp => (sE elt (m.in (m.scp k)) (X.blk s H (m.scp k) (compEnvC (m.scp k) cl Ce X.env) fp) _ _ (st.toSite.blk (m.scp k) s H Ce cl fp) k1).1) (fun x => no_fold X.env m it _ x)).imp fun D σ H hq => ?_
        · show (pure _ : Sem Bool) = pure true
          rw [← hb]
          rfl
        · have h5 := asg_read st.hE hq
          have h6 : tE RX X.K W (evE C call (.lc elt tg it c k)) σ H (fun x H1 => gName i x σ H1 D.nx) := by
            obtain ⟨ρ, μ, S, t, r, z⟩ := h5
            refine ⟨ρ, μ, S, t, r, z.imp fun a S1 H1 μ1 s1 t1 h7 v hv => ?_⟩
            obtain ⟨d, ρ2, μ2, S2, rd, t2, r2, h8⟩ := h7 v hv
            rw [asT] at h8
            exact h8 H1 μ2 .refl t2 _ (r2.set rd i a4) (by rw [T.slots]; exact SameS.set i _)
          exact sLc_read st.toSite (hc := rfl) h6
  rcases flc_or e with ⟨elt, tg, it, c, k, ee⟩ | ne2
  · subst ee
    cases t with
    | tp ts => exact plain (by rw [pT, pE]; rfl) noSw
    | sb o i => exact plain (by rw [pT, pE]; rfl) noSw
    | fa o f => rw [kT] at h1; cases h1
    | nm i =>
      cases hb : (X.env.blockKind == .function && X.env.kindOf (nmOf m.N i) == some .local && (hd ps.tail).line == (hd (pT m (.nm i) ps.tail).2).line && !((m.scp k).names.any fun (n, k) => n == nmOf m.N i && (k == .local || k == .cell))) with
      | false =>
        refine plain ?_ noSw
        rw [pT, pE]
        rw [pT] at hb
        show (pure _ : Sem Bool) = pure false
        rw [← hb]
        rfl
      | true =>
        have kl : X.env.scope.names.lookup (nmOf m.N i) = some .local := by
          rw [Bool.and_eq_true, Bool.and_eq_true, Bool.and_eq_true] at hb
          exact eq_of_beq hb.1.1.2
        rw [kT] at h1
        obtain ⟨a1, a2, a3, a4⟩ := st.toSite.a h1
        rw [pT] at hb hE ⊢
        dsimp only at hb hE ⊢
        rw [kE] at h2
        obtain ⟨h, k1⟩ := and2 h2
        obtain ⟨h, k2⟩ := and2 h
        obtain ⟨h, k3⟩ := and2 h
        obtain ⟨h, k4⟩ := and2 h
        obtain ⟨h, k5⟩ := and2 h
        obtain ⟨k7, k6⟩ := and2 h
        rw [pE]
        dsimp only
        refine (frzPS (RX := RX) (W := W) (i := i) (f := evE C call (.lc elt tg it c k)) (fun D σ H h6 => ?_) (ps_setLc (te := tE RX X.K (fun _ _ _ _ => False) (evE C call elt)) (tt := tT RX X.K (fun _ _ _ _ => False) (evC C call c)) (g := tG RX X.K tg.slots (asT C call tg)) (wi := iI RX X.K W (evI C call it)) (own := ownOf m tg) st.calm st.toSite.nodup a1 kl ?_ (sI it m X W _ st.toSite k7 (m.in (m.scp k)) tg _ k6) (blkOk_by (by rw [st.nN, st.sc]; exact k4))
          (fun s H Ce cl fp => sT tg (m.in (m.scp k)) (X.blk s H (m.scp k) (compEnvC (m.scp k) cl Ce X.env) fp) _ _ (st.toSite.blk (m.scp k) s H Ce cl fp) k3) (fun s H Ce cl fp => (sEo c (m.in (m.scp k)) (X.blk s H (m.scp k) (compEnvC (m.scp k) cl Ce X.env) fp) _ _ (st.toSite.blk (m.scp k) s H Ce cl fp) k2).2)
          (fun s H Ce cl fp => (sE elt (m.in (m.scp k)) (X.blk s H (m.scp k) (compEnvC (m.scp k) cl Ce X.env) fp) _ _ (st.toSite.blk (m.scp k) s H Ce cl fp) k1).1) (fun x => no_fold X.env m it _ x))).imp fun D σ H hq => ?_
        · exact sLc_read st.toSite (hc := rfl) h6
        · show (pure _ : Sem Bool) = pure true
          rw [← hb]
          rfl
        · have h5 := asg_read st.hE hq
          have h6 : tE RX X.K W (evE C call (.flc elt tg it c k)) σ H (fun x H1 => gName i x σ H1 D.nx) := by
            obtain ⟨ρ, μ, S, t, r, z⟩ := h5
            refine ⟨ρ, μ, S, t, r, z.imp fun a S1 H1 μ1 s1 t1 h7 v hv => ?_⟩
            obtain ⟨d, ρ2, μ2, S2, rd, t2, r2, h8⟩ := h7 v hv
            rw [asT] at h8
            exact h8 H1 μ2 .refl t2 _ (r2.set rd i a4) (by rw [T.slots]; exact SameS.set i _)
          rw [flc_eq] at h6
          exact h6
  · refine plain ?_ noSw
    exact no_swap X.env _ _ m e _ ne ne2 (wd_ne (and2 h3).1)
end
end Q
end
section
-- Snd17
set_option Elab.async false
set_option linter.all false
set_option maxRecDepth 100000
set_option maxHeartbeats 4000000
namespace Q
open PySem PySem.Spec PyProof.Rows L2
section
variable {RX : RXT} {C : Ctx} {call : Nat → List D → Store → Res R} {m : Nm} {X : Cx} {W : WX} {Ex : XK}
/-- a value to be held -/
theorem seqH (hE : ∀ σ c d H, Ex c d H → W c d σ H) {K : PySem.W.Frag} {H H0 : Hp} {μ μ0 : List Addr} {S : Store} {ρ : Env} {σ : L2.St} {β : Type} {p : β → Store → Hp → List Addr → Prop} {f : Env → Store → Res R} {g : D → Store → Res β} {Q : VK} (st : Step H0 μ0 H μ) (t : SR K H μ S) (r : RE RX.lp K H μ ρ σ) (h : Out RX K Ex H0 μ0 ((f ρ S).bind fun x S => settle x S g) p)
    (k : ∀ d S1 H1 μ1 v, Step H0 μ0 H1 μ1 → Step H μ H1 μ1 → SR K H1 μ1 S1 → RE RX.lp K H1 μ1 ρ σ → RD K H1 μ1 d v → Out RX K Ex H0 μ0 (g d S1) p → Q v H1) : tE RX K W f σ H Q :=
  seqEE hE st t r h fun x S1 H1 μ1 v st1 s1 t1 r1 hx h1 => by
    obtain ⟨d, S2, μ2, way, t2, rd, hix, hmem, h2⟩ := settle2 t1 hx h1
    have s2 : Step H μ H1 μ2 := way _ _ _ s1 fun _ z => z
    exact k d S2 H1 μ2 v (way _ _ _ st1 st.live) s2 t2 (r.step s2) rd h2
theorem isLoc_of (st : Site RX C call m X W) {i : Nat} (h : isLoc m i = true) : X.N[i]? = some (nmOf m.N i) ∧ X.env.scope.names.lookup (nmOf m.N i) = some .local ∧ RX.lp.cs.contains i = false := by
  unfold isLoc at h
  obtain ⟨h1, h2, h3⟩ := and3 h
  exact ⟨by rw [st.nN]; exact nm_at (Nat.blt_eq.mp h1), by rw [st.sc]; exact eq_of_beq h2, by rw [st.cs]; exact (Bool.not_eq_true' _).mp h3⟩
theorem kind_eq (st : Site RX C call m X W) : (fun x => X.env.kindOf x) = kindIn m := by
  funext x
  show X.env.scope.names.lookup x = _
  rw [st.sc]
  rfl
theorem ne_of {i j : Nat} (h : (!(i == j)) = true) : i ≠ j := by
  intro z
  subst z
  simp at h
theorem sPar2 (st : SiteS RX C call m X W Ex) {i j : Nat} {a b : E} {ps qs : PL} {p p1 p2 p3 p4 : Pos} (ka : kE m a = true) (kb : kE m b = true) (hi : isLoc m i = true) (hj : isLoc m j = true) (hij : (!(i == j)) = true)
    (hw : Sw (kindIn m) [.Name (nmOf m.N i) p1, .Name (nmOf m.N j) p2] [(pE m a ps).1, (pE m b qs).1] = some (some [nmOf m.N i, nmOf m.N j])) :
    PS X (.Assign [.Tuple [.Name (nmOf m.N i) p1, .Name (nmOf m.N j) p2] 0 p3] (.Tuple [(pE m a ps).1, (pE m b qs).1] 0 p4) p) (tSS RX X.K Ex (evS C call (.par2 i j a b))) := by
  obtain ⟨i1, i2, i3⟩ := isLoc_of st.toSite hi
  obtain ⟨j1, j2, j3⟩ := isLoc_of st.toSite hj
  have A := sE a m X W ps st.toSite ka
  have B := sE b m X W qs st.toSite kb
  refine (ps_par st.calm st.toSite.nodup i1 j1 (ne_of hij) i2 j2 (pa_cons A.1 (pa_cons B.1 pa_nil (star_cons _ m b qs [])) (star_cons _ m a ps _)) (sw_of st.bk (by rw [kind_eq st.toSite]; exact hw)) rfl).imp fun D σ H hq => ?_
  obtain ⟨ρ, μ, S, tt, r, z⟩ := hq
  rw [evS] at z
  refine seqH st.hE .refl tt r z fun d1 S1 H1 μ1 v1 st1 s1 t1 r1 rd1 h1 => seqH st.hE st1 t1 r1 h1 fun d2 S2 H2 μ2 v2 st2 s2 t2 r2 rd2 h2 => ?_
  exact ⟨v1, v2, rfl, h2 H2 μ2 st2 t2 _ ((r2.set (rd1.step s2) i i3).set rd2 j j3)⟩
theorem sPar3 (st : SiteS RX C call m X W Ex) {i j k : Nat} {a b c : E} {ps qs rs : PL} {p p1 p2 p3 p4 p5 : Pos} (ka : kE m a = true) (kb : kE m b = true) (kc : kE m c = true) (hi : isLoc m i = true) (hj : isLoc m j = true) (hk : isLoc m k = true) (hij : (!(i == j)) = true) (hik : (!(i == k)) = true) (hjk : (!(j == k)) = true)
    (hw : Sw (kindIn m) [.Name (nmOf m.N i) p1, .Name (nmOf m.N j) p2, .Name (nmOf m.N k) p5] [(pE m a ps).1, (pE m b qs).1, (pE m c rs).1] = some (some [nmOf m.N i, nmOf m.N j, nmOf m.N k])) :
    PS X (.Assign [.Tuple [.Name (nmOf m.N i) p1, .Name (nmOf m.N j) p2, .Name (nmOf m.N k) p5] 0 p3] (.Tuple [(pE m a ps).1, (pE m b qs).1, (pE m c rs).1] 0 p4) p) (tSS RX X.K Ex (evS C call (.par3 i j k a b c))) := by
  obtain ⟨i1, i2, i3⟩ := isLoc_of st.toSite hi
  obtain ⟨j1, j2, j3⟩ := isLoc_of st.toSite hj
  obtain ⟨k1, k2, k3⟩ := isLoc_of st.toSite hk
  have A := sE a m X W ps st.toSite ka
  have B := sE b m X W qs st.toSite kb
  have Cc := sE c m X W rs st.toSite kc
  refine (ps_par3 st.calm st.toSite.nodup i1 j1 k1 (ne_of hij) (ne_of hik) (ne_of hjk) i2 j2 k2 (pa_cons A.1 (pa_cons B.1 (pa_cons Cc.1 pa_nil (star_cons _ m c rs [])) (star_cons _ m b qs _)) (star_cons _ m a ps _)) (sw_of st.bk (by rw [kind_eq st.toSite]; exact hw)) rfl).imp fun D σ H hq => ?_
  obtain ⟨ρ, μ, S, tt, r, z⟩ := hq
  rw [evS] at z
  refine seqH st.hE .refl tt r z fun d1 S1 H1 μ1 v1 st1 s1 t1 r1 rd1 h1 => seqH st.hE st1 t1 r1 h1 fun d2 S2 H2 μ2 v2 st2 s2 t2 r2 rd2 h2 => seqH st.hE st2 t2 r2 h2 fun d3 S3 H3 μ3 v3 st3 s3 t3 r3 rd3 h3 => ?_
  exact ⟨v1, v2, v3, rfl, h3 H3 μ3 st3 t3 _ (((r3.set ((rd1.step s2).step s3) i i3).set (rd2.step s3) j j3).set rd3 k k3)⟩
theorem sAug (st : SiteS RX C call m X W Ex) {i : Nat} {o : Operator} {e : E} {ee : Expr} {p p1 : Pos} (hi : isA m i = true) (he : Snd RX X W ee (evE C call e)) (ho : augOk o = true) : PS X (.AugAssign (.Name (nmOf m.N i) p1) o ee p) (tSS RX X.K Ex (evS C call (.aug i o e))) := by
  obtain ⟨h1, h2, h3, h9⟩ := st.toSite.a hi
  cases o with
  | Add =>
    refine (ps_aug st.toSite.nodup h1 h2 he.1 ip_add h3).imp fun D σ H hq => ?_
    obtain ⟨ρ, μ, S, tt, r, z⟩ := hq
    rw [evS] at z
    split at z
    · rename_i d hd
      obtain ⟨v, e1, e2⟩ := r.at_ i d h9 hd
      refine ⟨v, e1, seqEE st.hE .refl tt r z fun x S1 H1 μ1 u st1 s1 t1 r1 hx h4 => ?_⟩
      obtain ⟨d2, ed, h5⟩ := h4.opt
      unfold evAug at ed
      split at ed
      · cases ed
        have q1 := rd_int e2
        have q2 := rd_int hx
        subst q1 q2
        exact ⟨_, _, rfl, rfl, h5 H1 μ1 st1 t1 _ (r1.set (.int _) i h9)⟩
      · cases ed
    · exact z.elim
  | Sub =>
    refine (ps_aug st.toSite.nodup h1 h2 he.1 ip_sub h3).imp fun D σ H hq => ?_
    obtain ⟨ρ, μ, S, tt, r, z⟩ := hq
    rw [evS] at z
    split at z
    · rename_i d hd
      obtain ⟨v, e1, e2⟩ := r.at_ i d h9 hd
      refine ⟨v, e1, seqEE st.hE .refl tt r z fun x S1 H1 μ1 u st1 s1 t1 r1 hx h4 => ?_⟩
      obtain ⟨d2, ed, h5⟩ := h4.opt
      unfold evAug at ed
      split at ed
      · cases ed
        have q1 := rd_int e2
        have q2 := rd_int hx
        subst q1 q2
        exact ⟨_, _, rfl, rfl, h5 H1 μ1 st1 t1 _ (r1.set (.int _) i h9)⟩
      · cases ed
    · exact z.elim
  | _ => cases ho
theorem sExpr (st : SiteS RX C call m X W Ex) {e : E} {ps : PL} {p : Pos} (he : Snd RX X W (pE m e ps).1 (evE C call e)) (hl : notLc e = true) : PS X (.Expr (pE m e ps).1 p) (tSS RX X.K Ex (evS C call (.expr e))) := by
  refine (ps_expr he.1 (no_swap X.env none p.line m e ps (fun a b c d e' z => by subst z; cases hl) (fun a b c d e' z => by subst z; cases hl) (fun a b c d z => by subst z; cases hl))).imp fun D σ H hq => ?_
  obtain ⟨ρ, μ, S, tt, r, z⟩ := hq
  rw [evS] at z
  exact seqEE st.hE .refl tt r z fun x S1 H1 μ1 v st1 s1 t1 r1 hx h1 => h1 H1 μ1 st1 t1 σ r1
theorem sIf (st : SiteS RX C call m X W Ex) {c : E} {a b : Ss} {ec : Expr} {la lb : List Stmt} {p : Pos} (hc : Snd RX X W ec (evE C call c)) (ha : PSs X la (tSS RX X.K Ex (evSs C call a))) (hb : PSs X lb (tSS RX X.K Ex (evSs C call b))) : PS X (.If ec la lb p) (tSS RX X.K Ex (evS C call (.ife c a b))) := by
  refine (ps_if hc.2 ha hb).imp fun D σ H hq => ?_
  obtain ⟨ρ, μ, S, tt, r, z⟩ := hq
  rw [evS, tru_bind] at z
  refine seqTE (f := fun ρ S => tru (evE C call c ρ S)) st.hE .refl tt r z fun k S1 H1 μ1 st1 s1 t1 r1 h1 => ?_
  cases k with
  | true => exact ⟨ρ, μ1, S1, t1, r1, (Out.at st1 h1).imp fun fl S2 H2 μ2 s2 t2 h2 => h2.base' st1.live⟩
  | false => exact ⟨ρ, μ1, S1, t1, r1, (Out.at st1 h1).imp fun fl S2 H2 μ2 s2 t2 h2 => h2.base' st1.live⟩
theorem sWhl (st : SiteS RX C call m X W Ex) {c : E} {b : Ss} {ec : Expr} {lb : List Stmt} {p : Pos} (hc : Snd RX X W ec (evE C call c)) (hb : PSs X lb (tSS RX X.K Ex (evSs C call b))) : PS X (.While ec lb [] p) (tSS RX X.K Ex (evS C call (.whl c b))) := by
  refine (ps_while st.po hc.2 hb).imp fun D σ H hq => ?_
  obtain ⟨ρ, μ, S, tt, r, z⟩ := hq
  rw [evS] at z
  refine ⟨fun m σ1 H1 => ∃ ρ1 μ1 S1, Step H μ H1 μ1 ∧ SR X.K H1 μ1 S1 ∧ RE RX.lp X.K H1 μ1 ρ1 σ1 ∧ Out RX X.K Ex H μ (evWhl (evE C call c) (evSs C call b) m ρ1 S1) (Fin RX.lp X.K D H), ⟨_, ρ, μ, S, .refl, tt, r, z⟩, ?_⟩
  rintro m σ1 H1 ⟨ρ1, μ1, S1, st1, t1, r1, h1⟩
  cases m with
  | zero => exact h1.elim
  | succ f =>
    rw [evWhl, tru_bind] at h1
    refine seqTE (f := fun ρ S => tru (evE C call c ρ S)) st.hE st1 t1 r1 h1 fun k S2 H2 μ2 st2 s2 t2 r2 h2 => ?_
    cases k with
    | false => exact h2 H2 μ2 st2 t2 σ1 r2
    | true =>
      refine ⟨_, fun σ' H' hN => ⟨f, Nat.lt_succ_self _, hN⟩, ρ1, μ2, S2, t2, r2, (Out.bind st2 h2).imp fun fl S3 H3 μ3 s3 t3 ⟨st3, _, _, h3⟩ => ?_⟩
      cases fl with
      | nx ρ3 => exact fun σ3 re3 => ⟨ρ3, μ3, S3, st3, t3, re3, h3⟩
      | ct ρ3 => exact fun σ3 re3 => ⟨ρ3, μ3, S3, st3, t3, re3, h3⟩
      | bk ρ3 => exact fun σ3 re3 => h3 H3 μ3 st3 t3 σ3 re3
      | rt r => exact fun v hv => h3 H3 μ3 st3 t3 v (hv.base st2.live)
theorem for_snd {K : PySem.W.Frag} {H H0 : Hp} {μ μ0 : List Addr} {S : Store} {ρ : Env} {σ : L2.St} {turn : D → Env → Store → Res Fl} {I : Iter} {J : L2.It} {g : TG} {tb : TS} {D : Ends} {Hf : Hp}
    (st : Step H0 μ0 H μ) (t : SR K H μ S) (r : RE RX.lp K H μ ρ σ) (ln : Lens K H) (hJ : ItR K H μ I J) (h : Out RX K Ex H0 μ0 (forI turn I ρ S) (Fin RX.lp K D Hf)) (hf : ∀ a, Hf a = none → H0 a = none)
    (hturn : ∀ (d : Q.D) x σ H μ S ρ (q : Fl → Store → Res Fl) (N : L2.St → Hp → Prop), Step H0 μ0 H μ → SR K H μ S → RE RX.lp K H μ ρ σ → RD K H μ d x → Out RX K Ex H0 μ0 ((turn d ρ S).bind q) (Fin RX.lp K D Hf) →
      (∀ fl H' μ' S', Step H0 μ0 H' μ' → Step H μ H' μ' → SR K H' μ' S' → Out RX K Ex H0 μ0 (q fl S') (Fin RX.lp K D Hf) → Fin RX.lp K { D with nx := N, ct := N, bk := D.nx } Hf fl S' H' μ') →
      g x σ H fun σ2 H2 => tb { D with nx := N, ct := N, bk := D.nx } σ2 H2) :
    ∃ W : Nat → Nat → L2.St → Hp → Prop, (∃ m, W 0 m σ H) ∧ ∀ i m σ H, W i m σ H →
      (J.stop i H ∧ D.nx σ H) ∨ (J.go i H ∧ ∃ N : L2.St → Hp → Prop, (∀ σ' H', N σ' H' → ∃ m', m' < m ∧ W (i + 1) m' σ' H') ∧ ∀ x H', J.yld i H x H' → g x σ H' fun σ2 H2 => tb { D with nx := N, ct := N, bk := D.nx } σ2 H2) := by
  cases I with
  | its ds =>
    obtain ⟨hz, G, w, hG⟩ := hJ
    have h : Out RX K Ex H0 μ0 (forL turn ds ρ S) (Fin RX.lp K D Hf) := h
    refine ⟨fun i m σ H => m = ds.length - i ∧ i ≤ ds.length ∧ ∃ μ S ρ, Step H0 μ0 H μ ∧ SR K H μ S ∧ RE RX.lp K H μ ρ σ ∧ G none H μ ∧ Out RX K Ex H0 μ0 (forL turn (ds.drop i) ρ S) (Fin RX.lp K D Hf),
      ⟨ds.length, by simp, Nat.zero_le _, μ, S, ρ, st, t, r, hG none (fun d e => by cases e), by rw [List.drop_zero]; exact h⟩, ?_⟩
    rintro i m σ1 H1 ⟨rfl, hi, μ1, S1, ρ1, st1, t1, r1, g1, h1⟩
    by_cases hlt : i < ds.length
    · have hd : ds[i]? = some ds[i] := List.getElem?_eq_getElem hlt
      rw [List.drop_eq_getElem_cons hlt] at h1
      refine .inr ⟨w.goes _ i H1 μ1 hlt g1, _, fun σ' H' hN => ⟨ds.length - (i + 1), by omega, rfl, hlt, hN⟩, fun x H' hy => ?_⟩
      obtain ⟨k, rd⟩ := w.yields _ i H1 μ1 x H' _ hd g1 hy
      have s' : Step H1 μ1 H' μ1 := StepD.grow k
      refine hturn ds[i] x σ1 H' μ1 S1 ρ1 _ _ (st1.trans s') (t1.grow k) (r1.step s') rd h1 fun fl H2 μ2 S2 st2 s2 t2 h2 => ?_
      cases fl with
      | nx ρ2 => exact fun σ2 re2 => ⟨μ2, S2, ρ2, st2, t2, re2, w.stab _ _ _ _ _ (w.stab _ _ _ _ _ g1 s') s2, h2⟩
      | ct ρ2 => exact fun σ2 re2 => ⟨μ2, S2, ρ2, st2, t2, re2, w.stab _ _ _ _ _ (w.stab _ _ _ _ _ g1 s') s2, h2⟩
      | bk ρ2 => exact fun σ2 re2 => h2 H2 μ2 st2 t2 σ2 re2
      | rt rr => exact fun v hv => h2 H2 μ2 st2 t2 v hv
    · have e : i = ds.length := by omega
      subst e
      rw [List.drop_length] at h1
      exact .inl ⟨w.stops _ H1 μ1 g1, h1 H1 μ1 st1 t1 σ1 r1⟩
  | live n =>
    obtain ⟨a, ha, rfl⟩ := hJ
    unfold forI at h
    dsimp only at h
    split at h
    · rename_i ds hs
      refine ⟨fun i m σ H => i + m = ds.length ∧ ∃ μ S ρ, Step H0 μ0 H μ ∧ SR K H μ S ∧ RE RX.lp K H μ ρ σ ∧ μ[n]? = some a ∧ Out RX K Ex H0 μ0 (forV turn n m i ρ S) (Fin RX.lp K D Hf),
        ⟨ds.length, by omega, μ, S, ρ, st, t, r, ha, h⟩, ?_⟩
      rintro i m σ1 H1 ⟨hi, μ1, S1, ρ1, st1, t1, r1, g1, h1⟩
      have key : ∀ ds1, S1[n]? = some (.lst ds1) → ∃ vs1, H1 a = some (.lst vs1) ∧ RDs K H1 μ1 ds1 vs1 := fun ds1 e => by
        obtain ⟨o, o1, vs1, e1, q1⟩ := t1.cell n _ _ e g1
        subst e1
        exact ⟨vs1, o1, q1⟩
      have stop : ∀ (ds1 : List Q.D), S1[n]? = some (.lst ds1) → ds1[i]? = none → (Itl K a).stop i H1 := fun ds1 e e2 => by
        obtain ⟨vs1, o1, q1⟩ := key ds1 e
        refine ⟨vs1, SqL.of o1, ?_⟩
        rw [← q1.length]
        exact List.getElem?_eq_none_iff.mp e2
      cases m with
      | zero =>
        unfold forV at h1
        split at h1
        · rename_i ds1 e1
          split at h1
          · rename_i e2
            exact .inl ⟨stop ds1 e1 e2, h1 H1 μ1 st1 t1 σ1 r1⟩
          · exact h1.elim
        · exact h1.elim
      | succ m =>
        unfold forV at h1
        split at h1
        · rename_i ds1 e1
          split at h1
          · rename_i e2
            exact .inl ⟨stop ds1 e1 e2, h1 H1 μ1 st1 t1 σ1 r1⟩
          · rename_i d e2
            obtain ⟨vs1, o1, q1⟩ := key ds1 e1
            obtain ⟨v, f1, f2⟩ := q1.get e2
            refine .inr ⟨⟨vs1, v, SqL.of o1, f1⟩, _, fun σ' H' hN => ⟨m, Nat.lt_succ_self _, by omega, hN⟩, fun x H' hy => ?_⟩
            obtain ⟨eH, hy⟩ := hy
            subst eH
            have ex := hy vs1 (SqL.of o1)
            rw [f1] at ex
            cases ex
            refine hturn d v σ1 H' μ1 S1 ρ1 _ _ st1 t1 r1 f2 h1 fun fl H2 μ2 S2 st2 s2 t2 h2 => ?_
            cases fl with
            | nx ρ2 => exact fun σ2 re2 => ⟨μ2, S2, ρ2, st2, t2, re2, s2.ix g1, h2⟩
            | ct ρ2 => exact fun σ2 re2 => ⟨μ2, S2, ρ2, st2, t2, re2, s2.ix g1, h2⟩
            | bk ρ2 => exact fun σ2 re2 => h2 H2 μ2 st2 t2 σ2 re2
            | rt rr => exact fun v hv => h2 H2 μ2 st2 t2 v hv
        · exact h1.elim
    · exact h.elim
theorem sFor (st : SiteS RX C call m X W Ex) {t : T} {it : It} {b : Ss} {et ei : Expr} {lb : List Stmt} {p : Pos} (ht : PG X et (tG RX X.K t.slots (asT C call t))) (hi : PI X et ei (iI RX X.K W (evI C call it))) (hb : PSs X lb (tSS RX X.K Ex (evSs C call b))) (hf : ∀ x, foldedSetIterable ei X.env x = pure x) : PS X (.For et ei lb [] p) (tSS RX X.K Ex (evS C call (.for t it b))) := by
  refine (ps_for st.po st.calm hi ht hb hf).imp fun D σ H hq => ?_
  obtain ⟨ρ, μ, S, tt, r, z⟩ := hq
  rw [evS] at z
  refine seqIE st.hE .refl tt r z fun I S1 H1 μ1 st1 s1 t1 r1 h1 ln J hJ => ?_
  refine for_snd st1 t1 r1 ln hJ h1 (fun _ z => z) fun d x σ2 H2 μ2 S2 ρ2 q N st2 t2 r2 rd h2 hN => ?_
  rw [Res.assoc] at h2
  refine ⟨d, ρ2, μ2, S2, rd, t2, r2, (Out.at st2 (Out.calm h2)).imp fun ρ3 S3 H3 μ3 s3 t3 h3 σ3 re3 _ => ?_⟩
  refine ⟨ρ3, μ3, S3, t3, re3, (Out.bind (st2.trans s3) h3).imp fun fl S4 H4 μ4 s4 t4 ⟨st4, _, _, h4⟩ => ?_⟩
  exact (hN fl H4 μ4 S4 st4 (s3.trans s4) t4 h4).base' (st2.trans s3).live
theorem pa_defs (st : Site RX C call m X W) : ∀ (fs : List Nat) (ps : PL), fs.all (fun f => (m.fn[f]?).isSome && isG m (fnOf m.fn f)) = true →
    ∃ as : List Addr, as.length = fs.length ∧ (∀ (i f : Nat) a, fs[i]? = some f → as[i]? = some a → RX.lp.fnv f (.ref a)) ∧ PA X (defExprs m fs ps) fun _ H Q => Q (as.map L2.V.ref) H
  | [], ps, _ => ⟨[], rfl, fun i f a e => by simp at e, pa_nil.imp fun σ H Q h => h⟩
  | f :: r, ps, h => by
    rw [List.all_cons, Bool.and_eq_true, Bool.and_eq_true] at h
    obtain ⟨⟨h1, h2⟩, h3⟩ := h
    obtain ⟨as, l, k, p⟩ := pa_defs st r ps.tail h3
    obtain ⟨⟨x, np, nd⟩, e1⟩ := Option.isSome_iff_exists.mp h1
    have ex : fnOf m.fn f = x := by
      unfold fnOf
      rw [List.getD_eq_getElem?_getD, e1]
      rfl
    obtain ⟨g1, g2, g3⟩ := st.g h2
    obtain ⟨F, fa, fd, pps, k2, f1, f2, f3, f4, _⟩ := st.fn f x np nd e1
    refine ⟨fa :: as, by simp [l], fun i g a e e' => ?_, ?_⟩
    · cases i with
      | zero =>
        simp at e e'
        subst e e'
        exact st.fv' f x np nd fa e1 f4
      | succ i => exact k i g a (by simpa using e) (by simpa using e')
    · have e2 : defExprs m (f :: r) ps = .Name (fnOf m.fn f) (hd ps) :: defExprs m r ps.tail := rfl
      rw [e2]
      rw [ex] at g1 g2 ⊢
      exact (pa_cons (pe_glob (v := .ref fa) g1 f4 rfl g2) p rfl).imp fun σ H Q h => h
theorem sForF (st : SiteS RX C call m X W Ex) {i : Nat} {fs : List Nat} {b : Ss} {lb : List Stmt} {ps : PL} {p p1 p2 : Pos} (hi : isFa m i = true) (hf : fs.all (fun f => (m.fn[f]?).isSome && isG m (fnOf m.fn f)) = true) (hz : fs.length ≤ 5000) (hb : PSs X lb (tSS RX X.K Ex (evSs C call b))) :
    PS X (.For (.Name (nmOf m.N i) p1) (.Tuple (defExprs m fs ps) 0 p2) lb [] p) (tSS RX X.K Ex (evS C call (.forF i fs b))) := by
  obtain ⟨as, hl, has, hpa⟩ := pa_defs st.toSite fs ps hf
  have hcs : RX.lp.cs.contains i = true := by
    unfold isFa at hi
    rw [Bool.and_eq_true] at hi
    rw [st.cs]
    exact hi.2
  have hG : PG X (.Name (nmOf m.N i) p1) (gName i) := by
    unfold isFa at hi
    rw [Bool.and_eq_true, Bool.and_eq_true, Bool.or_eq_true, Bool.and_eq_true] at hi
    obtain ⟨⟨h1, h2⟩, _⟩ := hi
    refine pg_name (by rw [st.nN]; exact st.nd) (by rw [st.nN]; exact nm_at (Nat.blt_eq.mp h1)) ?_ ?_
    · unfold L2.Loc
      rw [st.sc]
      rcases h2 with h2 | ⟨h2, _⟩
      · exact .inl (eq_of_beq h2)
      · exact .inr (eq_of_beq h2)
    · rw [st.sc]
      rcases h2 with h2 | ⟨_, h2⟩
      · exact .inr (eq_of_beq h2)
      · exact .inl (st.fs _ h2)
  refine (ps_for st.po st.calm (pi_tup (pe_tup hpa)) hG hb (by intro _; rfl)).imp fun D σ H hq => ?_
  obtain ⟨ρ, μ, S, tt, r, z⟩ := hq
  rw [evS] at z
  refine ⟨by rw [List.length_map, hl, sizeLine_eq]; omega, fun q hq => ⟨q, rfl, ⟨_, SqT.of upd_same⟩, ?_⟩⟩
  have k0 : Step H μ (upd H q (.tup (as.map L2.V.ref))) μ := StepD.grow (grow_upd hq)
  refine ⟨fun j m σ H1 => m = fs.length - j ∧ j ≤ fs.length ∧ ∃ μ1 S1 ρ1, Step H μ H1 μ1 ∧ SR X.K H1 μ1 S1 ∧ RE RX.lp X.K H1 μ1 ρ1 σ ∧ SqT X.K H1 q (as.map L2.V.ref) ∧ Out RX X.K Ex H μ (forL (fun d ρ S => evSs C call b (ρ.set i (some d)) S) ((fs.drop j).map .fnv) ρ1 S1) (Fin RX.lp X.K D H), ⟨fs.length, by simp, Nat.zero_le _, μ, S, ρ, k0, tt.new hq, r.step k0, SqT.of upd_same, by rw [List.drop_zero]; exact z⟩, ?_⟩
  rintro j m1 σ1 H1 ⟨rfl, hj, μ1, S1, ρ1, st1, t1, r1, g1, h1⟩
  by_cases hlt : j < fs.length
  · have hlt' : j < (as.map L2.V.ref).length := by rw [List.length_map, hl]; exact hlt
    rw [List.drop_eq_getElem_cons hlt, List.map_cons] at h1
    have ea : (as.map L2.V.ref)[j]? = some (.ref (as[j]'(by rw [hl]; exact hlt))) := by
      rw [List.getElem?_map, List.getElem?_eq_getElem (by rw [hl]; exact hlt)]
      rfl
    refine .inr ⟨⟨_, _, g1, ea⟩, _, fun σ' H' hN => ⟨fs.length - (j + 1), by omega, rfl, hlt, hN⟩, fun x H' hy => ?_⟩
    obtain ⟨eH, hy⟩ := hy
    subst eH
    have ex := hy _ g1
    rw [ea] at ex
    cases ex
    have h1 : Out RX X.K Ex H μ ((evSs C call b (ρ1.set i (some (.fnv fs[j]))) S1).bind fun fl S => match fl with
      | .nx ρ => forL (fun d ρ S => evSs C call b (ρ.set i (some d)) S) ((fs.drop (j + 1)).map .fnv) ρ S
      | .ct ρ => forL (fun d ρ S => evSs C call b (ρ.set i (some d)) S) ((fs.drop (j + 1)).map .fnv) ρ S
      | .bk ρ => .ok (.nx ρ) S
      | .rt r => .ok (.rt r) S) (Fin RX.lp X.K D H) := h1
    refine ⟨_, μ1, S1, t1, r1.setC (d := .fnv fs[j]) (v := .ref _) (has j fs[j] _ (List.getElem?_eq_getElem hlt) (List.getElem?_eq_getElem (by rw [hl]; exact hlt))) i hcs, (Out.bind st1 h1).imp fun fl S2 H2 μ2 s2 t2 ⟨st2, _, _, h2⟩ => ?_⟩
    cases fl with
    | nx ρ2 => exact fun σ2 re2 => ⟨μ2, S2, ρ2, st2, t2, re2, SqT.mono' s2.tups g1, h2⟩
    | ct ρ2 => exact fun σ2 re2 => ⟨μ2, S2, ρ2, st2, t2, re2, SqT.mono' s2.tups g1, h2⟩
    | bk ρ2 => exact fun σ2 re2 => h2 H2 μ2 st2 t2 σ2 re2
    | rt rr => exact fun v hv => h2 H2 μ2 st2 t2 v (hv.base st1.live)
  · have e : j = fs.length := by omega
    subst e
    rw [List.drop_length] at h1
    exact .inl ⟨⟨_, g1, by rw [List.length_map, hl]; exact Nat.le_refl _⟩, h1 H1 μ1 st1 t1 σ1 r1⟩
mutual
theorem sS : ∀ (s : Q.S) (m : Nm) (X : Cx) (W : WX) (ps : PL), SiteS RX C call m X W Ex → kS m s ps = true → PS X (pS m s ps).1 (tSS RX X.K Ex (evS C call s))
  | .asg t e, m, X, W, ps, st, h => by
    rw [pS]
    rw [kS] at h
    obtain ⟨h1, h2, h3⟩ := and3 h
    exact sAsg st h1 h2 h3
  | .par2 i j a b, m, X, W, ps, st, h => by
    rw [pS]
    rw [kS] at h
    obtain ⟨h, k1⟩ := and2 h
    obtain ⟨h, k2⟩ := and2 h
    obtain ⟨h, k3⟩ := and2 h
    obtain ⟨k6, k5, k4⟩ := and3 h
    exact sPar2 st k6 k5 k4 k3 k2 (of_decide_eq_true k1)
  | .par3 i j k a b c, m, X, W, ps, st, h => by
    rw [pS]
    rw [kS] at h
    obtain ⟨h, k1⟩ := and2 h
    obtain ⟨h, k2⟩ := and2 h
    obtain ⟨h, k3⟩ := and2 h
    obtain ⟨h, k4⟩ := and2 h
    obtain ⟨h, k5⟩ := and2 h
    obtain ⟨h, k6⟩ := and2 h
    obtain ⟨h, k7⟩ := and2 h
    obtain ⟨k10, k9, k8⟩ := and3 h
    exact sPar3 st k10 k9 k8 k7 k6 k5 k4 k3 k2 (of_decide_eq_true k1)
  | .aug i o e, m, X, W, ps, st, h => by
    rw [pS]
    rw [kS] at h
    obtain ⟨h1, h2, h3⟩ := and3 h
    exact sAug st h1 (sE e m X W _ st.toSite h2) h3
  | .expr e, m, X, W, ps, st, h => by
    rw [pS]
    rw [kS] at h
    obtain ⟨h1, h2⟩ := and2 h
    exact sExpr st (sE e m X W _ st.toSite h1) h2
  | .ife c a b, m, X, W, ps, st, h => by
    rw [pS]
    rw [kS] at h
    obtain ⟨h1, h2, h3⟩ := and3 h
    exact sIf st (sE c m X W _ st.toSite h1) (sSs a m X W _ st h2) (sSs b m X W _ st h3)
  | .whl c b, m, X, W, ps, st, h => by
    rw [pS]
    rw [kS] at h
    obtain ⟨h1, h2⟩ := and2 h
    exact sWhl st (sE c m X W _ st.toSite h1) (sSs b m X W _ st h2)
  | .for t it b, m, X, W, ps, st, h => by
    rw [pS]
    rw [kS] at h
    obtain ⟨h, k1⟩ := and2 h
    obtain ⟨k4, k3, k2⟩ := and3 h
    exact sFor st (sT t m X W _ st.toSite k4) (sI it m X W _ st.toSite k3 m t _ k2) (sSs b m X W _ st k1) (fun x => no_fold _ m it _ x)
  | .ret e, m, X, W, ps, st, h => by
    rw [pS]
    rw [kS] at h
    refine (ps_ret (sE e m X W _ st.toSite h).1).imp fun D σ H hq => ?_
    obtain ⟨ρ, μ, S, tt, r, z⟩ := hq
    rw [evS] at z
    exact seqEE st.hE .refl tt r z fun x S1 H1 μ1 v st1 s1 t1 r1 hx h1 => h1 H1 μ1 st1 t1 v hx
  | .ret0, m, X, W, ps, st, h => by
    rw [pS]
    refine ps_retN.imp fun D σ H hq => ?_
    obtain ⟨ρ, μ, S, tt, r, z⟩ := hq
    rw [evS] at z
    exact z H μ .refl tt _ .non
  | .pass, m, X, W, ps, st, h => by
    rw [pS]
    refine ps_pass.imp fun D σ H hq => ?_
    obtain ⟨ρ, μ, S, tt, r, z⟩ := hq
    rw [evS] at z
    exact z H μ .refl tt _ r
  | .brk, m, X, W, ps, st, h => by
    rw [pS]
    refine ps_break.imp fun D σ H hq => ?_
    obtain ⟨ρ, μ, S, tt, r, z⟩ := hq
    rw [evS] at z
    exact z H μ .refl tt _ r
  | .cont, m, X, W, ps, st, h => by
    rw [pS]
    refine ps_continue.imp fun D σ H hq => ?_
    obtain ⟨ρ, μ, S, tt, r, z⟩ := hq
    rw [evS] at z
    exact z H μ .refl tt _ r
  | .hole k, m, X, W, ps, st, h => sNever fun ρ S => by rw [evS]
  | .clos i js, m, X, W, ps, st, h => by
    have ht : m.top = true := by
      rw [kS] at h
      unfold isC at h
      simp only [Bool.and_eq_true] at h
      exact h.1.1.1.2
    exact st.cl ht i js ps h
  | .raise c e, m, X, W, ps, st, h => st.rs c e ps h
  | .forF i fs b, m, X, W, ps, st, h => by
    rw [pS]
    rw [kS] at h
    obtain ⟨h, k1⟩ := and2 h
    obtain ⟨k4, k3, k2⟩ := and3 h
    exact sForF st k4 k3 (Nat.ble_eq.mp k2) (sSs b m X W _ st k1)
theorem sSs : ∀ (s : Ss) (m : Nm) (X : Cx) (W : WX) (ps : PL), SiteS RX C call m X W Ex → kSs m s ps = true → PSs X (pSs m s ps).1 (tSS RX X.K Ex (evSs C call s))
  | .nil, m, X, W, ps, st, h => by
    rw [pSs]
    exact ssNil
  | .cons s r, m, X, W, ps, st, h => by
    rw [pSs]
    rw [kSs] at h
    obtain ⟨h1, h2⟩ := and2 h
    exact ssCons (sS s m X W _ st h1) (sSs r m X W _ st h2)
end
end
end Q
end
section
-- SndB
set_option Elab.async false
set_option linter.all false
set_option maxRecDepth 100000
set_option maxHeartbeats 4000000
namespace Q
open PySem PySem.Spec PyProof.Rows L2
/-! ### lambdas are made -/
/-- the lambda at f, its code at c -/
def lamO (q : Str) (params : Arguments) (body : Expr) (scope : Scope) (cl : List (Str × Addr)) (f c : Addr) : HO := .ext fun h => ∃ pm ctv, h.get? f = some (PySem.W.kla_obj "<lambda>" q params body scope cl pm c ctv)
/-- a good table -/
def TabQ (H : Hp) (q : Str) (o : HO) : Prop := ∃ ps : Array Value, o = .tbl ps ∧ TriplesOk ps.toList ∧ ∀ (pos : Pos) (cv : Value), codeAmong pos ps.toList = some cv → ∃ c, cv = .ref c ∧ Imm H c (LamX.CodeO c q)
/-- what the making of a lambda leaves -/
structure Made (H H1 : Hp) (P : Addr) (q : Str) : Prop where
  keep : ∀ b o, b ≠ P → H b = some o → H1 b = some o
  im : Im H H1
  live : ∀ a, H1 a = none → H a = none
  tab : ∃ o, H1 P = some o ∧ TabQ H1 q o
theorem Made.trans {H H1 H2 : Hp} {P : Addr} {q : Str} (a : Made H H1 P q) (b : Made H1 H2 P q) : Made H H2 P q :=
  ⟨fun c o n e => b.keep c o n (a.keep c o n e), fun c u h => b.im c u (a.im c u h), fun c h => a.live c (b.live c h), b.tab⟩
theorem im_tbl {H H1 : Hp} {P : Addr} {ps : Array Value} (hP : H P = some (.tbl ps)) (k : ∀ b o, b ≠ P → H b = some o → H1 b = some o) : Im H H1 := fun a u h => by
  have ne : a ≠ P := fun z => by
    rw [z] at h
    rcases h with ⟨o, h⟩ | ⟨⟨xs, e⟩, h⟩
    · rw [hP] at h; cases h
    · rw [e, hP] at h; cases h
  rcases h with ⟨o, h⟩ | ⟨e, h⟩
  · exact .inl ⟨o, k _ _ ne h⟩
  · exact .inr ⟨e, k _ _ ne h⟩
section
variable {X : Cx} {pins : List (Addr × Obj)} {σ : L2.St} {H : Hp} {s : Shared}
/-- the function's object is laid and frozen -/
theorem lay_lam {H1 : Hp} {h' : Heap} {tk : Nat} {q : Str} {params : Arguments} {body : Expr} {scope : Scope} {cl : List (Str × Addr)} {pm ctv : Value} {c' : Addr} (I1 : Inv X pins σ H1 { s with heap := h', toks := tk }) :
    Inv X pins σ (upd H1 h'.objs.size (.frz (PySem.W.kla_obj "<lambda>" q params body scope cl pm c' ctv) (lamO q params body scope cl h'.objs.size c'))) { s with heap := h'.push (PySem.W.kla_obj "<lambda>" q params body scope cl pm c' ctv), toks := tk } := by
  refine I1.laid (t' := tk) (fun b o e => Heap.get?_push_of_some _ e) (Nat.le_refl _) ⟨Heap.get?_push_size _ rfl, ⟨pm, ctv, Heap.get?_push_size _ rfl⟩, ⟨_, Heap.get?_push_size _ rfl⟩, fun h1 h2 z k => ?_⟩
  obtain ⟨pm, ctv, z⟩ := z
  exact ⟨pm, ctv, k _ z⟩
theorem lam_new {c P : Addr} {q : Str} {ps : Array Value} {params : Arguments} {body : Expr} {scope : Scope} {pos : Pos} {E : Value → Shared → Prop} {Q : Value → Shared → Prop} (I : Inv X pins σ H s) (TB : LamX.TabB X.base X.mg c P) (hcode : X.env.code = .ref c) (eq : q = X.env.qual ++ "<lambda>")
    (hP : H P = some (.tbl ps)) (ht : TriplesOk ps.toList) (ha : ∀ (pos : Pos) (cv : Value), codeAmong pos ps.toList = some cv → ∃ c, cv = .ref c ∧ Imm H c (LamX.CodeO c q)) (hdef : defaultsOf params X.env = ([], [])) (hfree : ∀ y ∈ scope.names, y.2 = .free → ∃ c, X.env.cells.lookup y.1 = some c)
    (h : ∀ (f c' : Addr) (H1 : Hp) (s' : Shared), Inv X pins σ H1 s' → Made H H1 P q → H f = none → Imm H1 f (lamO q params body scope (cloFrom X.env.cells scope.names []) f c') → Imm H1 c' (LamX.CodeO c' q) → Q (.ref f) s') :
    wpAny (model X.prog X.w) X.A (eval (.Lambda params body scope pos) X.env) Q E s := by
  subst eq
  refine PySem.W.kla_eval hdef ?_
  have bP : s.heap.BuiltinsAt X.mg P := TB.bm.keeps I.bk
  have hP' : s.heap.get? P = some { cls := .none, data := .fields ps } := I.hok P _ hP
  cases hc : codeAmong pos ps.toList with
  | none =>
    refine PySem.W.kla_makeFunction (mg := X.mg) (c := c) (P := P) (ps := ps) (closure_ok hfree) I.ok.glob (I.mod.glob.keeps I.bk) hcode (TB.code.keeps I.bk) hP' ht hc TB.gP bP fun c' ctv h' tk hx hge hlt hrec htb => ?_
    obtain ⟨c2, oc, vs, t, e2, hoc, hd, hv⟩ := hrec
    cases e2
    have nC : H c' = none := I.hok.fresh hge
    have I1 := LamX.inv_table (t' := tk) (more := #[rawInt pos.line, rawInt pos.col, .ref c']) (h' := h') I hP hx htb hge ⟨oc, vs, t, hoc, hd, hv⟩
    have I2 := I1.freeze (a := c') (u := LamX.CodeO c' (X.env.qual ++ "<lambda>")) (o := oc) upd_same True.intro hoc fun H' x => x
    rw [upd_upd] at I2
    have I3 := lay_lam (q := X.env.qual ++ "<lambda>") (params := params) (body := body) (scope := scope) (cl := cloFrom X.env.cells scope.names []) (pm := (X.mg "__name__").getD .none) (ctv := ctv) (c' := c') I2
    generalize hH2 : upd (upd H P (.tbl (ps ++ #[rawInt pos.line, rawInt pos.col, .ref c']))) c' (.frz oc (LamX.CodeO c' (X.env.qual ++ "<lambda>"))) = H2 at I2 I3
    have nPc : P ≠ c' := ne_of_none hP nC
    have k2 : ∀ b o, b ≠ P → H b = some o → H2 b = some o := fun b o n e => by
      rw [← hH2, upd_ne (ne_of_none e nC), upd_ne n]
      exact e
    have hsz : s.heap.objs.size ≤ h'.objs.size := Nat.le_trans hge (Nat.le_of_lt hlt)
    have nf : H h'.objs.size = none := I.hok.fresh hsz
    have nf2 : H2 h'.objs.size = none := by
      have n1 : h'.objs.size ≠ c' := Nat.ne_of_gt hlt
      have n2 : h'.objs.size ≠ P := Nat.ne_of_gt (Nat.lt_of_lt_of_le (Heap.lt_size hP') hsz)
      rw [← hH2, upd_ne n1, upd_ne n2]
      exact nf
    have k3 := grow_upd (o := .frz (PySem.W.kla_obj "<lambda>" (X.env.qual ++ "<lambda>") params body scope (cloFrom X.env.cells scope.names []) ((X.mg "__name__").getD .none) c' ctv) (lamO (X.env.qual ++ "<lambda>") params body scope (cloFrom X.env.cells scope.names []) h'.objs.size c')) nf2
    have hc2 : H2 c' = some (.frz oc (LamX.CodeO c' (X.env.qual ++ "<lambda>"))) := by rw [← hH2, upd_same]
    have hp2 : H2 P = some (.tbl (ps ++ #[rawInt pos.line, rawInt pos.col, .ref c'])) := by rw [← hH2, upd_ne nPc, upd_same]
    have im2 : Im H H2 := im_tbl hP k2
    have im3 : Im H2 _ := im_grow k3
    refine h _ c' _ _ I3 ⟨fun b o n e => k3 _ _ (k2 b o n e), fun a u z => im3 a u (im2 a u z), fun a z => ?_, ⟨_, k3 _ _ hp2, _, rfl, ?_, fun p' cv hcv => ?_⟩⟩ nf (.inl ⟨_, upd_same⟩) (.inl ⟨_, k3 _ _ hc2⟩)
    · cases e : H a with
      | none => rfl
      | some o =>
        by_cases hp : a = P
        · rw [hp, k3 _ _ hp2] at z; cases z
        · rw [k3 _ _ (k2 a o hp e)] at z; cases z
    · have eL : (ps ++ #[rawInt pos.line, rawInt pos.col, .ref c']).toList = ps.toList ++ [rawInt pos.line, rawInt pos.col, .ref c'] := by simp
      rw [eL]
      exact PySem.TriplesOk_snoc _ _ _ _ ht
    · have eL : (ps ++ #[rawInt pos.line, rawInt pos.col, .ref c']).toList = ps.toList ++ [rawInt pos.line, rawInt pos.col, .ref c'] := by simp
      rw [eL] at hcv
      rcases LamX.among_app _ ht hcv with z | z
      · obtain ⟨c0, e1, e2⟩ := ha p' cv z
        exact ⟨c0, e1, im3 _ _ (im2 _ _ e2)⟩
      · exact ⟨c', z, im3 _ _ (.inl ⟨_, hc2⟩)⟩
  | some cv =>
    obtain ⟨c', e, hco⟩ := ha pos cv hc
    subst e
    refine PySem.W.kla_makeFunctionHit (mg := X.mg) (c := c) (P := P) (ps := ps) (closure_ok hfree) I.ok.glob (I.mod.glob.keeps I.bk) hcode (TB.code.keeps I.bk) hP' ht hc bP fun ctv h' tk hx hsz => ?_
    have I1 : Inv X pins σ H { s with heap := h', toks := tk } := I.kept hx
    have I3 := lay_lam (q := X.env.qual ++ "<lambda>") (params := params) (body := body) (scope := scope) (cl := cloFrom X.env.cells scope.names []) (pm := (X.mg "__name__").getD .none) (ctv := ctv) (c' := c') I1
    have nf : H h'.objs.size = none := I.hok.fresh hsz
    have k3 := grow_upd (o := .frz (PySem.W.kla_obj "<lambda>" (X.env.qual ++ "<lambda>") params body scope (cloFrom X.env.cells scope.names []) ((X.mg "__name__").getD .none) c' ctv) (lamO (X.env.qual ++ "<lambda>") params body scope (cloFrom X.env.cells scope.names []) h'.objs.size c')) nf
    have im3 : Im H _ := im_grow k3
    refine h _ c' _ _ I3 ⟨fun b o n e => k3 _ _ e, im3, fun a z => ?_, ⟨_, k3 _ _ hP, ps, rfl, ht, fun p' cv hcv => ?_⟩⟩ nf (.inl ⟨_, upd_same⟩) (im3 _ _ hco)
    · cases e : H a with
      | none => rfl
      | some o => rw [k3 _ _ e] at z; cases z
    · obtain ⟨c0, e1, e2⟩ := ha p' cv hcv
      exact ⟨c0, e1, im3 _ _ e2⟩
end
end Q
end
section
-- SndC
set_option Elab.async false
set_option linter.all false
set_option maxRecDepth 100000
set_option maxHeartbeats 4000000
namespace Q
open PySem PySem.Spec PyProof.Rows L2
/-- where lambdas are made: the def's own frame -/
structure LamSite (RX : RXT) (C : Ctx) (m : Nm) (X : Cx) : Prop where
  q : RX.lp.q = X.env.qual ++ "<lambda>"
  tab : ∃ (c P : Addr) (t : Nat), X.env.code = .ref c ∧ LamX.TabB X.base X.mg c P ∧ RX.lp.tabs[t]? = some P ∧ C.tbls[t]? = some (Cell.tbl RX.lp.q)
  dom : ∀ j, m.lb ≤ j → (m.lam[j - m.lb]?).isSome = true → RX.lp.dom j
  lam : ∀ (j : Nat) L, m.lam[j - m.lb]? = some L → (∀ f c, RX.lp.lam j f c = lamO RX.lp.q L.params L.body L.scope (cloFrom X.env.cells L.scope.names []) f c) ∧ defaultsOf L.params X.env = ([], []) ∧ LamX.LamS X.env.scope L.scope
abbrev LamsAt (lp : LP) (H : Hp) (js : List Nat) (fs : List Addr) : Prop := PySem.Paired (fun j f => ∃ c, Imm H f (lp.lam j f c) ∧ Imm H c (LamX.CodeO c lp.q)) js fs
theorem LamsAt.im {lp : LP} {H H' : Hp} (t : Im H H') {js : List Nat} {fs : List Addr} (h : LamsAt lp H js fs) : LamsAt lp H' js fs := by
  induction h with
  | nil => exact .nil
  | cons r _ ih =>
    obtain ⟨c, r1, r2⟩ := r
    exact .cons ⟨c, t _ _ r1, t _ _ r2⟩ ih
section
variable {RX : RXT} {C : Ctx} {m : Nm} {X : Cx}
theorem pe_lam {P c : Addr} {params : Arguments} {body : Expr} {scope : Scope} {pos : Pos} {q : Str} (TB : LamX.TabB X.base X.mg c P) (hcode : X.env.code = .ref c) (eq : q = X.env.qual ++ "<lambda>") (hdef : defaultsOf params X.env = ([], [])) (L : LamX.LamS X.env.scope scope) :
    PE X (.Lambda params body scope pos) fun σ H Q => (∃ o, H P = some o ∧ TabQ H q o) ∧ ∀ f c H1, Made H H1 P q → Imm H1 f (lamO q params body scope (cloFrom X.env.cells scope.names []) f c) → Imm H1 c (LamX.CodeO c q) → Q (.ref f) H1 := by
  refine ⟨fun pins s σ H Q I h => ?_⟩
  obtain ⟨⟨o, hP, ps, e, ht, ha⟩, h⟩ := h
  subst e
  exact lam_new I TB hcode eq hP ht ha hdef (L.has I.ok) fun f c' H1 s' I1 md _ hf hc => ⟨.ref f, H1, I1, rfl, h f c' H1 md hf hc⟩
theorem pa_lams {P c : Addr} (ls : LamSite RX C m X) (TB : LamX.TabB X.base X.mg c P) (hcode : X.env.code = .ref c) : ∀ (js : List Nat) (ps : PL), (∀ j ∈ js, (m.lam[j - m.lb]?).isSome = true) →
    PA X (lamExprs m js ps) fun σ H Q => (∃ o, H P = some o ∧ TabQ H RX.lp.q o) ∧ ∀ H1 fs, Made H H1 P RX.lp.q ∨ H1 = H → LamsAt RX.lp H1 js fs → Q (fs.map L2.V.ref) H1
  | [], ps, _ => pa_nil.imp fun σ H Q ⟨_, h⟩ => h H [] (.inr rfl) .nil
  | j :: r, ps, h => by
    obtain ⟨L, eL⟩ := Option.isSome_iff_exists.mp (h j List.mem_cons_self)
    obtain ⟨l1, l2, l3⟩ := ls.lam j L eL
    have e1 : lamExprs m (j :: r) ps = .Lambda L.params L.body L.scope (hd ps) :: lamExprs m r ps.tail := by
      show (match m.lam[j - m.lb]? with
        | some L => Expr.Lambda L.params L.body L.scope (hd ps)
        | none => .Constant .none 0 (hd ps)) :: _ = _
      rw [eL]
    rw [e1]
    refine (pa_cons (pe_lam (q := RX.lp.q) TB hcode ls.q l2 l3) (pa_lams ls TB hcode r ps.tail fun k hk => h k (List.mem_cons_of_mem _ hk))).imp fun σ H Q ⟨ht, k⟩ => ⟨ht, fun f c H1 md hf hc => ⟨md.tab, fun H2 fs md2 hfs => ?_⟩⟩
    have im12 : Im H1 H2 := by
      rcases md2 with md2 | e
      · exact md2.im
      · rw [e]; exact fun _ _ z => z
    refine k H2 (f :: fs) (.inl ?_) (.cons ⟨c, ?_, im12 _ _ hc⟩ hfs)
    · rcases md2 with md2 | e
      · exact md.trans md2
      · rw [e]; exact md
    · rw [l1]
      exact im12 _ _ hf
theorem sr_made {K : PySem.W.Frag} {H H1 : Hp} {μ : List Addr} {S : Store} {P : Addr} {q : Str} {t : Nat} (tt : SR K H μ S) (md : Made H H1 P q) (hS : S[t]? = some (.tbl q)) (hm : μ[t]? = some P) : SR K H1 μ S ∧ Step H μ H1 μ := by
  have hP : P ∈ μ := List.mem_of_getElem? hm
  refine ⟨⟨tt.len, tt.nd, fun n c a e1 e2 => ?_⟩, StepD.mk' (fun a o e n => md.keep a o (fun z => n (by rw [z]; exact hP)) e) md.im md.live ⟨[], by simp, by simp⟩⟩
  by_cases ha : a = P
  · have en : n = t := by
      obtain ⟨p1, p2⟩ := List.getElem?_eq_some_iff.mp e2
      obtain ⟨p3, p4⟩ := List.getElem?_eq_some_iff.mp hm
      exact (List.getElem_inj tt.nd).mp (p2.trans (ha.trans p4.symm))
    rw [en, hS] at e1
    cases e1
    obtain ⟨o, h1, h2⟩ := md.tab
    exact ⟨o, by rw [ha]; exact h1, h2⟩
  · obtain ⟨o, h1, h2⟩ := tt.cell n c a e1 e2
    exact ⟨o, md.keep a o ha h1, h2.mono md.im fun _ _ z => z⟩
theorem sClos {call : Nat → List D → Store → Res R} {W : WX} {Ex : XK} (st : Site RX C call m X W) (ls : LamSite RX C m X) {i : Nat} {js : List Nat} {ps : PL} {p p1 p2 : Pos} (hi : isC m i = true) (hj : js.all (fun j => Nat.ble m.lb j && (m.lam[j - m.lb]?).isSome) = true) (hz : js.length ≤ 5000) :
    PS X (.Assign [.Name (nmOf m.N i) p1] (.List (lamExprs m js ps) p2) p) (tSS RX X.K Ex (evS C call (.clos i js))) := by
  unfold isC at hi
  rw [Bool.and_eq_true, Bool.and_eq_true, Bool.and_eq_true] at hi
  obtain ⟨⟨⟨h1, h2⟩, h3⟩, h4⟩ := hi
  have a1 : X.N[i]? = some (nmOf m.N i) := by rw [st.nN]; exact nm_at (Nat.blt_eq.mp h1)
  have a2 : X.env.scope.names.lookup (nmOf m.N i) = some .local := by rw [st.sc]; exact eq_of_beq h2
  have hcs : RX.lp.cs.contains i = true := by rw [st.cs]; exact h3
  obtain ⟨c, P, t, t1, t2, t3, t4⟩ := ls.tab
  have hj2 : ∀ j ∈ js, m.lb ≤ j ∧ (m.lam[j - m.lb]?).isSome = true := fun j hjm => by
    have z := List.all_eq_true.mp hj j hjm
    rw [Bool.and_eq_true] at z
    exact ⟨Nat.ble_eq.mp z.1, z.2⟩
  have hA := pa_lams ls t2 t1 js ps fun j hjm => (hj2 j hjm).2
  have one : (assignEach [.Name (nmOf m.N i) p1] X.env).map (·.2) = [assign (.Name (nmOf m.N i) p1) X.env] := rfl
  have hG : PG X (.Name (nmOf m.N i) p1) (gName i) := pg_name (by rw [st.nN]; exact st.nd) a1 (.inl a2) (.inr a2)
  have hE : PE X (.List (lamExprs m js ps) p2) (fun σ H Q => (∃ o, H P = some o ∧ TabQ H RX.lp.q o) ∧ ∀ H1 fs p, Made H H1 P RX.lp.q ∨ H1 = H → LamsAt RX.lp H1 js fs → H1 p = none → ∀ o, Q (.ref p) (upd H1 p (.frz o (.lst (fs.map L2.V.ref))))) := by
    refine ⟨fun pins s σ H Q I hq => ?_⟩
    refine thn ((pe_lst hA).run pins s σ H (fun v H' => ∃ p fs H1, v = .ref p ∧ H1 p = none ∧ H' = upd H1 p (.lst (fs.map L2.V.ref)) ∧ (Made H H1 P RX.lp.q ∨ H1 = H) ∧ LamsAt RX.lp H1 js fs) I ⟨hq.1, fun H1 fs md hfs => ⟨?_, fun p hp => ⟨p, fs, H1, rfl, hp, rfl, md, hfs⟩⟩⟩) fun u s' ⟨v, H', I', rv, p, fs, H1, ev, hp, eH, md, hfs⟩ => ?_
    · have e : js.length = fs.length := hfs.length
      rw [List.length_map, ← e, sizeLine_eq]
      omega
    · subst ev eH
      obtain ⟨z, its, n, rr, g⟩ := I'.hok p _ upd_same
      have J := I'.freeze (a := p) (u := .lst (fs.map L2.V.ref)) upd_same True.intro g (fun H' x => x)
      rw [upd_upd] at J
      exact ⟨.ref p, _, J, rv, hq.2 H1 fs p md hfs hp _⟩
  refine (ps_asg hE hG rfl rfl one).imp fun D σ H hq => ?_
  obtain ⟨ρ, μ, S, tt, r, z⟩ := hq
  rw [evS] at z
  split at z
  case isFalse => exact z.elim
  rename_i hok
  obtain ⟨rest, eS, _⟩ := tblsOk_app hok
  have hS : S[t]? = some (.tbl RX.lp.q) := by
    rw [eS, List.getElem?_append_left (List.getElem?_eq_some_iff.mp t4).1]
    exact t4
  have hm : μ[t]? = some P := by
    obtain ⟨ν, e⟩ := r.pre
    rw [e, List.getElem?_append_left (List.getElem?_eq_some_iff.mp t3).1]
    exact t3
  refine ⟨?_, fun H1 fs p md hfs hp o => ?_⟩
  · obtain ⟨o, g1, g2⟩ := tt.cell t _ P hS hm
    exact ⟨o, g1, g2⟩
  · have key : SR X.K H1 μ S ∧ Step H μ H1 μ := by
      rcases md with md | e
      · exact sr_made tt md hS hm
      · rw [e]; exact ⟨tt, .refl⟩
    obtain ⟨k1, k2⟩ := key
    have k3 : Step H1 μ (upd H1 p (.frz o (.lst (fs.map L2.V.ref)))) μ := StepD.grow (grow_upd hp)
    refine z _ μ (k2.trans k3) (k1.new hp) _ ((r.step (k2.trans k3)).setC (d := .clos js) (v := .ref p) (show RC RX.lp _ (.clos js) (.ref p) from ⟨fun j hjm => ls.dom j (hj2 j hjm).1 (hj2 j hjm).2, p, fs, rfl, .inl ⟨o, upd_same⟩, hfs.im k3.tups⟩) i hcs)
end
end Q
end
section
-- SndD
set_option Elab.async false
set_option linter.all false
set_option maxRecDepth 100000
set_option maxHeartbeats 4000000
namespace Q
open PySem PySem.Spec PyProof.Rows L2
/-! ### a lambda is called by the def that got it -/
section
variable {X : Cx} {pins : List (Addr × Obj)} {σ : L2.St} {H HZ : Hp} {s s1 : Shared}
theorem lam_at {P : Program} {w : World} {h : Heap} {q : Str} {params : Arguments} {body : Expr} {scope : Scope} {cl : List (Str × Addr)} {f c : Addr} (ok : HOk P w H h) (hf : Imm H f (lamO q params body scope cl f c)) : ∃ pm ctv, h.get? f = some (PySem.W.kla_obj "<lambda>" q params body scope cl pm c ctv) := by
  rcases hf with ⟨o, hf⟩ | ⟨⟨xs, e⟩, _⟩
  · obtain ⟨_, z, _⟩ := ok f _ hf
    exact z
  · unfold lamO at e
    cases e
theorem code_at {P : Program} {w : World} {h : Heap} {q : Str} {c : Addr} (ok : HOk P w H h) (hc : Imm H c (LamX.CodeO c q)) : ∃ (oc : Obj) (vs : Array Value) (t : Tok), h.get? c = some oc ∧ oc.data = .fields vs ∧ vs[1]? = some (.str q t) := by
  rcases hc with ⟨o, hc⟩ | ⟨⟨xs, e⟩, _⟩
  · obtain ⟨_, z, _⟩ := ok c _ hc
    exact z
  · unfold LamX.CodeO at e
    cases e
theorem pe_act2 {CXg : CXT} {Eg : XK} {Ng : List Str} {qg : Str} {sg : Scope} {g f c' : Addr} {cdg : Value} {params : Arguments} {body : Expr} {scope : Scope} {k i : Nat} {a : Str} {pn : List (Addr × Obj)} {xe : Value → Shared → Prop} {W : WX} {E : XK} {tb : TE} {p1 p2 : Pos}
    (I : Inv X pins σ H s) (L : LamX.LamS X.env.scope scope)
    (hbind : ∀ pm cv ctv, bindArgs (PySem.W.kla_fn "<lambda>" (X.env.qual ++ "<lambda>") params body scope (cloFrom X.env.cells scope.names []) pm cv ctv) ⟨[], []⟩ = pure [])
    (tk : Takes ((cxOf CXg X.prog X.w X.K X.mg X.base Ng qg sg g cdg X.A X.stack s H Eg).tr pn xe) W) (hW : ∀ cls d σ' H', E cls d H' → W cls d σ' H') (hr : Room (k + 1) (X.A.deeper (envOfC qg sg s.heap.objs.size g cdg)))
    (hbody : ∀ (A : Around) (outer : List PySem.Env) (s : Shared) (H : Hp), A.guards = X.A.guards → Room k (A.deeper (LamX.lamEnv X scope s.heap.objs.size f c')) → PE (LamX.lamCx X A outer s H E scope f c') body tb)
    (hN : Ng[i]? = some a) (hv : Vis sg a) (hd : (a == ("__debug__" : Str)) = false) (hcd : (a == ("__classdict__" : Str)) = false) :
    PE ((cxOf CXg X.prog X.w X.K X.mg X.base Ng qg sg g cdg X.A X.stack s H Eg).tr pn xe) (.Call (.Name a p1) [] [] p2)
      (fun σZ HZ Q => σZ[i]? = some (some (.ref f)) ∧ Imm HZ f (lamO (X.env.qual ++ "<lambda>") params body scope (cloFrom X.env.cells scope.names []) f c') ∧ Imm HZ c' (LamX.CodeO c' (X.env.qual ++ "<lambda>")) ∧ tb σ HZ Q) := by
  refine ⟨fun pinsZ sZ σZ HZ Q IZ h => ?_⟩
  obtain ⟨hs, hf, hc, ht⟩ := h
  refine wpAny_Call_Name_kw (thn ((pe_var (pos := p1) (i := i) hN hv hd hcd).run pinsZ sZ σZ HZ (fun v H1 => v = .ref f ∧ H1 = HZ) IZ ⟨.ref f, hs, rfl, rfl⟩) fun u s1 ⟨v, H1, I1, r1, q1⟩ => ?_)
  obtain ⟨ev, eH⟩ := q1
  subst ev
  rw [eH] at I1
  obtain rfl : u = Value.ref f := r1
  obtain ⟨pm, ctv, of1⟩ := lam_at I1.hok hf
  obtain ⟨oc, vs, t, hoc, hdc, hvc⟩ := code_at I1.hok hc
  refine PySem.W.callWith_F0 ⟨_, _, _, _, of1⟩ ?_
  have un : Un (frs X.stack) [] H HZ s.heap s1.heap := I1.base
  have rc : codeAny (model X.prog X.w) (X.A.deeper (envOfC qg sg s.heap.objs.size g cdg)) (.call (.ref f) ⟨[], []⟩) (L2.CR (L2.CX X.prog X.w) (envOfC qg sg s.heap.objs.size g cdg :: X.stack) X.prog X.w HZ s1 Q E) s1 := by
    refine PySem.W.kla_callFunE hr.depth of1 rfl L.co L.gen rfl ⟨c', oc, vs, t, rfl, hoc, hdc, hvc⟩ ?_
    rw [hbind]
    refine wpAny_pure (wpAny_newFunctionEnv (fun y hy => (L.own y hy).2) (fun y hy => absurd hy (by simp)) (fun h₁ hns hsb => ⟨I1.nolimit.fresh _ hsb, ?_⟩) L.kind)
    show codeAny _ _ (.expr body (LamX.lamEnv X scope s1.heap.objs.size f c')) _ _
    have kp : ∀ b o, s1.heap.get? b = some o → h₁.get? b = some o := fun b o e => hsb.extBut b o (Nat.ne_of_lt (Heap.lt_size e)) (Heap.get?_push_of_some _ e)
    have J : Inv (LamX.lamCx X (X.A.deeper (envOfC qg sg s.heap.objs.size g cdg)) (envOfC qg sg s.heap.objs.size g cdg :: X.stack) s1 HZ E scope f c') [] σ HZ { s1 with heap := h₁, toks := s1.toks + ([] : List (Str × Value)).length } :=
      LamX.lam_start2 I L I1.env0 hr.hd un hns kp
    refine PySem.W.kla_codeExpr (wpAny_mono ((hbody (X.A.deeper _) _ s1 HZ rfl (hr.deeper _)).run [] _ _ HZ Q J ht) (fun v s' hq => ?_) fun e s' hq => hq)
    obtain ⟨w', H', J', rv, q⟩ := hq
    exact ⟨w', H', J'.os, J'.bare, J'.base, J'.hok, rv, q⟩
  have hx : Passes (L2.CX X.prog X.w) ((cxOf CXg X.prog X.w X.K X.mg X.base Ng qg sg g cdg X.A X.stack s H Eg).tr pn xe) E := passes_call tk hW
  refine wpAny_call (codeAny_mono rc fun r s' hq => ?_)
  cases r with
  | error e => exact hx pinsZ σZ HZ s1 e s' I1 hq
  | ok fl =>
    cases fl with
    | ret u => exact I1.after hq
    | next => exact False.elim hq
    | brk => exact False.elim hq
    | cont => exact False.elim hq
end
end Q
end
section
-- SndE
set_option Elab.async false
set_option linter.all false
set_option maxRecDepth 100000
set_option maxHeartbeats 4000000
namespace Q
open PySem PySem.Spec PyProof.Rows L2
/-! ### several except clauses, some with a name -/
abbrev Clause := Value × Option Nat × (Addr → Value → Option Addr → TS)
def goneD (D : Ends) (i : Nat) : Ends := { nx := fun σ' H' => D.nx (σ'.set i none) H', rt := D.rt, bk := fun σ' H' => D.bk (σ'.set i none) H', ct := fun σ' H' => D.ct (σ'.set i none) H' }
def wMix (K : PySem.W.Frag) (Wout : WX) (D : Ends) : List Clause → WX
  | [] => Wout
  | (c, none, ts) :: r => fun cls d σ H => ∃ b, PySem.W.exmOne K cls c = some b ∧ (b = true → ∀ a, H a = none → ts a cls d D σ H) ∧ (b = false → wMix K Wout D r cls d σ H)
  | (c, some i, ts) :: r => fun cls d σ H => ∃ b, PySem.W.exmOne K cls c = some b ∧ (b = true → ∀ a, H a = none → ts a cls d (goneD D i) (σ.set i (some (.ref a))) H) ∧ (b = false → wMix K Wout D r cls d σ H)
inductive HdsM (X : Cx) : List ExceptHandler → List Clause → Prop
  | nil : HdsM X [] []
  | plain {x : Str} {c : Value} {ts : Addr → Value → Option Addr → TS} {b₀ : Stmt} {suite : List Stmt} {np pos' : Pos} {hds : List ExceptHandler} {l : List Clause} (hc : Names X x c)
      (hsu : ∀ (a : Addr) (oe : Obj) (cls : Value) (d : Option Addr) (pn : List (Addr × Obj)), Zc cls d oe → (∃ vs, oe.data = .fields vs) → PSs (X.suite a ((a, oe) :: pn)) (b₀ :: suite) (ts a cls d)) (r : HdsM X hds l) :
      HdsM X (.ExceptHandler (some (.Name x np)) none (b₀ :: suite) pos' :: hds) ((c, none, ts) :: l)
  | named {x n : Str} {i : Nat} {c : Value} {ts : Addr → Value → Option Addr → TS} {b₀ : Stmt} {suite : List Stmt} {np pos' : Pos} {hds : List ExceptHandler} {l : List Clause} (hN : X.N.Nodup) (hi : X.N[i]? = some n) (hln : X.env.kindOf n = some .local) (hc : Names X x c)
      (hsu : ∀ (a : Addr) (oe : Obj) (cls : Value) (d : Option Addr) (pn : List (Addr × Obj)), Zc cls d oe → (∃ vs, oe.data = .fields vs) → PSs (X.suite a ((a, oe) :: pn)) (b₀ :: suite) (ts a cls d)) (r : HdsM X hds l) :
      HdsM X (.ExceptHandler (some (.Name x np)) (some n) (b₀ :: suite) pos' :: hds) ((c, some i, ts) :: l)
section
variable {X : Cx} {body : List Stmt} {h₀ : ExceptHandler} {hds : List ExceptHandler} {l : List Clause} {pos : Pos} {tb : WX → TS} {Wout : WX}
theorem ps_try_mix (hs : X.stack = X.env :: X.outer) (hf : X.env.frame = some X.env.locals) (tk : Takes X Wout)
    (hb : ∀ (W : WX) (pn : List (Addr × Obj)) (xe : Value → Shared → Prop), Takes (X.tr pn xe) W → PassesOwn (model X.prog X.w) X.A X.env xe → PSs (X.tr pn xe) body (tb W))
    (hh : HdsM X (h₀ :: hds) l) : PS X (.Try body (h₀ :: hds) [] [] pos) (fun D σ H => tb (wMix X.K Wout D l) D σ H) := by
  refine ⟨fun pins s σ H D I h => ?_⟩
  have ok := I.ok
  have hfr : X.A.frames = some (X.env :: X.outer) := by rw [ok.frames, hs]
  refine wpAny_Try_except ?_
  refine wpAny_mono ((hb (wMix X.K Wout D l) (X.pn ++ pins) (fun e s₁ => wpAny (model X.prog X.w) X.A (noteFrame e X.env) (fun _ s₂ => wpAny (model X.prog X.w) X.A (setFlight e none) (fun _ s₃ =>
    wpAny (model X.prog X.w) X.A (handleBy e X.env (h₀ :: hds)) (SP X pins D) X.xe s₃) X.xe s₂) X.xe s₁) (fun u s' xx => ?_) PassesOwn.looking).run [] s σ H D (I.toTry _) h) (fun f s1 hsp => ?_) (fun e s1 he => he)
  · obtain ⟨a, B, sI, pinsE, σE, HE, cls, d, rfl, JE, nb, up, sky, na, os, ag, w⟩ := xx
    have J : Inv X pins σE HE sI := JE.ofTry ok
    have skyE : Sky B (X.env :: X.outer) a (Zc cls d) X.env.locals s'.heap := by rw [← hs]; exact sky
    show wpAny (model X.prog X.w) X.A (noteFrame (.ref a) X.env) _ _ _
    refine Sky.land Zc.steady hfr hf skyE fun hA flA upA => ?_
    have JA : Inv X pins σE HE { s' with heap := hA } := J.landed nb flA.1 (up.trans upA) os ag
    obtain ⟨oA, vA, gA, zA, dA⟩ := flA.there
    have notFr : ∀ {h : Heap} {o : Obj} {vs : Array Value}, h.FunFrames B (X.env :: X.outer) → h.get? a = some o → o.data = .fields vs → a ∉ frs (X.env :: X.outer) := fun {h o vs} ff e dd hm => by
      obtain ⟨_, o2, e2, hnf⟩ := ff.mem hm
      rw [e] at e2
      cases e2
      exact hnf _ dd
    have nfr := notFr flA.2.2.1 gA dA
    have nL : a ≠ X.env.locals := fun z => nfr (List.mem_filterMap.mpr ⟨X.env, List.mem_cons_self, by rw [hf, z]⟩)
    have nF : a ∉ X.fs := fun hm => by
      obtain ⟨e, he, q⟩ := List.mem_filterMap.mp hm
      exact nfr (List.mem_filterMap.mpr ⟨e, List.mem_cons_of_mem _ he, q⟩)
    have SA := JA.suite gA dA na nL nF
    have LT : PySem.W.Looks (model X.prog X.w) hA (typeOf (.ref a)) cls := fun A Q E s k q => wpAny_typeOf_ref (k _ _ gA) (by rw [zA.1]; exact q)
    have test : ∀ {x : Str} {c : Value} {np : Pos} {Q : Value → Shared → Prop} {E : Value → Shared → Prop}, Names X x c → Q c { s' with heap := hA } → wpAny (model X.prog X.w) (X.A.mark (some (.ref a))) (eval (.Name x np) X.env) Q E { s' with heap := hA } := fun {x c np Q E} nm q => by
      obtain ⟨hg, hdbg, hm | ⟨hm, hv, hnn⟩⟩ := nm
      · exact ld_glob (X := X.suite a ((a, oA) :: (X.pn ++ pins))) SA hg hm q hdbg
      · exact ld_blt (X := X.suite a ((a, oA) :: (X.pn ++ pins))) SA hg hm hv q hnn hdbg
    have go : ∀ {hds2 : List ExceptHandler} {l2 : List Clause}, HdsM X hds2 l2 → wMix X.K Wout D l2 cls d σE HE → wpAny (model X.prog X.w) X.A (handleBy (.ref a) X.env hds2) (SP X pins D) X.xe { s' with heap := hA } := by
      intro hds2 l2 hk
      induction hk with
      | nil =>
        intro w
        refine wpAny_handleBy_nil ?_
        obtain ⟨k1, k2, k3, oe, vs, T, oT, tsT, he, hz, hd, h1, hr⟩ := id flA
        unfold PySem.passOn
        refine wpAny_bind (wpAny_field he hd h1 ?_)
        rw [if_neg (show ¬ ((Value.ref T == Value.none) = true) from by simp)]
        have fin : wpAny (model X.prog X.w) X.A (setFlight (.ref a) X.env.frame) (fun _ s4 => wpAny (model X.prog X.w) X.A (throw (.ref a) : Sem Flow) (SP X pins D) X.xe s4) X.xe { s' with heap := hA } := by
          rw [hf]
          refine HandSPX.setFlight_upZ flA fun h4 hh4 up4 => wpAny_throw (tk _ _ ?_)
          exact ⟨a, B, sI, pins, σE, HE, cls, d, rfl, J, nb, (up.trans upA).trans up4, .inr (.inr (by rw [hs]; exact hh4)), na, os, ag, w⟩
        first
          | exact wpAny_bind (wpAny_pure (wpAny_bind fin))
          | exact wpAny_bind fin
      | @plain x c ts b₀ suite np pos' hds3 l3 hc hsu r ih =>
        intro w
        obtain ⟨b, hb1, hyes, hno⟩ := w
        refine wpAny_handleBy_cons (codeAny_handlers_test ?_) (by intro q; cases q)
        have LM := PySem.W.exm_one (M := model X.prog X.w) (JA.kIn) LT hb1
        refine test hc (LM.here ?_)
        cases b with
        | true =>
          refine codeAny_handlers_suite ?_
          refine HandSPX.lands_againZ flA fun hB flB upB => ?_
          have JB : Inv X pins σE HE { s' with heap := hB } := J.landed nb flB.1 ((up.trans upA).trans upB) os ag
          obtain ⟨oB, vB, gB, zB, dB⟩ := flB.there
          have SB := JB.suite gB dB na nL nF
          refine wpAny_mono ((hsu a oB cls d (X.pn ++ pins) zB ⟨_, dB⟩).run [] _ _ HE _ SB (hyes rfl a na)) (fun f s6 hsp => ?_) (fun _ _ z => False.elim z)
          cases f with
          | next => obtain ⟨σ6, H6, S6, q6⟩ := hsp; exact ⟨_, _, S6.unsuite ok, q6⟩
          | brk => obtain ⟨σ6, H6, S6, q6⟩ := hsp; exact ⟨_, _, S6.unsuite ok, q6⟩
          | cont => obtain ⟨σ6, H6, S6, q6⟩ := hsp; exact ⟨_, _, S6.unsuite ok, q6⟩
          | ret u => obtain ⟨v6, σ6, H6, S6, r6, q6⟩ := hsp; exact ⟨_, _, _, S6.unsuite ok, r6, q6⟩
        | false =>
          show wpAny _ X.A (handleBy (.ref a) X.env hds3) _ _ _
          exact ih (hno rfl)
      | @named x n i c ts b₀ suite np pos' hds3 l3 hN hi hln hc hsu r ih =>
        intro w
        obtain ⟨b, hb1, hyes, hno⟩ := w
        refine wpAny_handleBy_cons (codeAny_handlers_test ?_) (by intro q; cases q)
        have LM := PySem.W.exm_one (M := model X.prog X.w) (JA.kIn) LT hb1
        refine test hc (LM.here ?_)
        cases b with
        | true =>
          refine codeAny_handlers_suite_as ?_
          refine HandSPX.lands_againZ flA fun hB flB upB => ?_
          have JB : Inv X pins σE HE { s' with heap := hB } := J.landed nb flB.1 ((up.trans upA).trans upB) os ag
          obtain ⟨oB, vB, gB, zB, dB⟩ := flB.there
          have SB := JB.suite gB dB na nL nF
          refine store_ok (X := X.suite a ((a, oB) :: (X.pn ++ pins))) (v := .ref a) SB hN hi (.inl hln) rfl (fun s5 S5 => ?_) (.inr hln)
          refine wpAny_mono ((hsu a oB cls d (X.pn ++ pins) zB ⟨_, dB⟩).run [] s5 _ HE _ S5 (hyes rfl a na)) (fun f s6 hsp => ?_) (fun _ _ z => False.elim z)
          have bye : ∀ {σ6 : L2.St} {H6 : Hp} {Q : Shared → Prop}, Inv (X.suite a ((a, oB) :: (X.pn ++ pins))) [] σ6 H6 s6 → (∀ s7, Inv X pins (σ6.set i none) H6 s7 → Q s7) →
              wpAny (model X.prog X.w) X.A (do bindName X.env n .none; unbindBehindTheSuite X.env n pos') (fun _ s7 => Q s7) X.xe s6 := fun {σ6 H6 Q} S6 hq => gone_ok (S6.unsuite ok) hN hi hln hq
          cases f with
          | next => obtain ⟨σ6, H6, S6, q6⟩ := hsp; exact bye S6 fun s7 J7 => ⟨_, _, J7, q6⟩
          | brk => obtain ⟨σ6, H6, S6, q6⟩ := hsp; exact bye S6 fun s7 J7 => ⟨_, _, J7, q6⟩
          | cont => obtain ⟨σ6, H6, S6, q6⟩ := hsp; exact bye S6 fun s7 J7 => ⟨_, _, J7, q6⟩
          | ret u => obtain ⟨v6, σ6, H6, S6, r6, q6⟩ := hsp; exact bye S6 fun s7 J7 => ⟨_, _, _, J7, r6, q6⟩
        | false =>
          show wpAny _ X.A (handleBy (.ref a) X.env hds3) _ _ _
          exact ih (hno rfl)
    exact go hh w
  · cases f with
    | next =>
      obtain ⟨σ', H', J', q⟩ := hsp
      exact wpAny_execs_nil ⟨σ', H', J'.ofTry ok, q⟩
    | brk =>
      obtain ⟨σ', H', J', q⟩ := hsp
      exact ⟨σ', H', J'.ofTry ok, q⟩
    | cont =>
      obtain ⟨σ', H', J', q⟩ := hsp
      exact ⟨σ', H', J'.ofTry ok, q⟩
    | ret u =>
      obtain ⟨v, σ', H', J', r, q⟩ := hsp
      exact ⟨v, σ', H', J'.ofTry ok, r, q⟩
end
end Q
end
section
-- SndR
set_option Elab.async false
set_option linter.all false
set_option maxRecDepth 100000
set_option maxHeartbeats 4000000
namespace Q
open PySem PySem.Spec PyProof.Rows L2
/-! ### own errors that say super().__init__(text) and keep what they are made of -/
/-- what can be told as a text -/
def Tell (h : Heap) (u : Value) : Prop := ∃ (p : PyData) (as : List Addr) (y : Str), Reads h u p as ∧ reprOf p = some y ∧ y.length ≤ 1000000
section
variable {P : Program} {w : World} {A : Around} {E : Value → Shared → Prop} {s : Shared}
theorem tell_ok {u : Value} {Q : Value → Shared → Prop} (r : Tell s.heap u) (gd : A.guards = some []) (un : A.units + 100 < cLine)
    (h : ∀ (y : Str) (t : Tok) (h' : Heap) (tk : Nat), (∀ b o, s.heap.get? b = some o → h'.get? b = some o) → y.length ≤ 1000000 → Q (.str y t) { s with heap := h', toks := tk }) : wpAny (model P w) A (pyReprObj u) Q E s := by
  obtain ⟨p, as, y, rd, e, hy⟩ := r
  unfold reprOf at e
  split at e
  case isFalse => cases e
  rename_i hz
  cases e
  rw [Bool.and_eq_true, Bool.and_eq_true, Bool.and_eq_true] at hz
  obtain ⟨⟨⟨z1, z2⟩, z3⟩, z4⟩ := hz
  have z3 := Nat.ble_eq.mp z3
  have z4 : p.shown.length ≤ sizeLine := by rw [sizeLine_eq]; exact Nat.ble_eq.mp z4
  have z2 : p.hasDict = false := (Bool.not_eq_true' _).mp z2
  have far : ∀ a, u = .ref a → wpAny (model P w) A (pyReprObj u) Q E s := fun a ea => by
    subst ea
    exact pyReprObj_of_reads rd z1 (PyData.noDict_hsm z2) gd (by omega) (fun _ _ k => k) (fun h' t tk k => h _ t _ _ k hy) z4
  cases rd with
  | none => exact pyReprObj_none (h _ _ _ _ (fun _ _ k => k) hy)
  | bool b => exact pyReprObj_bool (h _ _ _ _ (fun _ _ k => k) hy)
  | int i t => exact pyReprObj_int (of_decide_eq_true z1) (h _ _ _ _ (fun _ _ k => k) hy)
  | str x t => exact pyReprObj_str (h _ _ _ _ (fun _ _ k => k) hy) z4
  | _ => exact far _ rfl
/-- the texts that these classes hand up -/
inductive MsgK (io : Bool) (x : Str) : Expr → Prop
  | const (m : Str) (k : Nat) (p : Pos) : MsgK io x (.Constant (.str m) k p)
  | tail (m : Str) (k : Nat) (p p1 p2 p3 : Pos) (hz : m.length ≤ 1000) : MsgK io x (.JoinedStr [.FormattedValue (.Name x p1) 114 none p2, .Constant (.str m) k p3] p)
  | front (m : Str) (k : Nat) (p p1 p2 p3 : Pos) (hz : m.length ≤ 1000) : MsgK io x (.JoinedStr [.Constant (.str m) k p3, .FormattedValue (.Name x p1) 114 none p2] p)
  /-- an int, told without a mark -/
  | num (hio : io = true) (m : Str) (k : Nat) (p p1 p2 p3 : Pos) (hz : m.length ≤ 1000) : MsgK io x (.JoinedStr [.Constant (.str m) k p3, .FormattedValue (.Name x p1) (-1) none p2] p)
def SmallI (u : Value) : Prop := ∃ (i : Int) (t : Tok), u = .int i t ∧ i.natAbs.log2 < 1920
theorem slen (a b : Str) : (a ++ b).length = a.length + b.length := by
  show (a.cps ++ b.cps).size = a.cps.size + b.cps.size
  exact Array.size_append
theorem msg_ok {env : PySem.Env} {x : Str} {msg : Expr} {m : Str → Option Value} {u : Value} {Q : Value → Shared → Prop} {io : Bool} (hm : MsgK io x msg) (hu : io = true → SmallI u) (hk : env.scope.kind = .function) (hl : env.kindOf x = some .local) (hd : (x == ("__debug__" : Str)) = false) (hn : s.heap.Ns env.locals m) (hv : m x = some u)
    (r : Tell s.heap u) (gd : A.guards = some []) (un : A.units + 100 < cLine) (h : ∀ (y : Str) (t : Tok) (h' : Heap) (tk : Nat), (∀ b o, s.heap.get? b = some o → h'.get? b = some o) → Q (.str y t) { s with heap := h', toks := tk }) :
    wpAny (model P w) A (eval msg env) Q E s := by
  have one : ∀ {p1 p2 : Pos} {Q : Value → Shared → Prop} {s1 : Shared}, s1.heap = s.heap → (∀ (y : Str) (t : Tok) (h' : Heap) (tk : Nat), (∀ b o, s1.heap.get? b = some o → h'.get? b = some o) → y.length ≤ 1000000 → Q (.str y t) { s1 with heap := h', toks := tk }) →
      wpAny (model P w) A (eval (.FormattedValue (.Name x p1) 114 none p2) env) Q E s1 := fun {p1 p2 Q s1} es h => by
    refine wpAny_FormattedValue_repr (wpAny_Name (wpAny_loadName_local hk hl (by rw [es]; exact hn) hv (tell_ok (by rw [es]; exact r) gd un fun y t h' tk k hy => ?_)) hd)
    exact wpAny_formatField_str (h y t _ _ k hy) (h y _ _ _ k hy) (by rw [sizeLine_eq]; omega)
  cases hm with
  | const m k p => exact Calls.Constant_str (h _ _ _ _ fun _ _ k => k)
  | tail m k p p1 p2 p3 hz =>
    refine wpAny_JoinedStr ?_
    have e1 : ∀ l : List Expr, evalEach l env = l.map fun e => eval e env := fun l => by
      induction l with
      | nil => first | rfl | simp [evalEach]
      | cons a r ih => rw [show evalEach (a :: r) env = eval a env :: evalEach r env from by first | rfl | simp [evalEach], ih]; rfl
    rw [e1]
    refine one rfl fun y t h' tk k1 hy => ⟨y, t, rfl, ?_, Calls.Constant_str ⟨m, _, rfl, ?_, ?_, h _ _ _ _ k1⟩⟩ <;> (rw [sizeLine_eq]; simp only [slen]; have : Str.empty.length = 0 := rfl; omega)
  | front m k p p1 p2 p3 hz =>
    refine wpAny_JoinedStr ?_
    have e1 : ∀ l : List Expr, evalEach l env = l.map fun e => eval e env := fun l => by
      induction l with
      | nil => first | rfl | simp [evalEach]
      | cons a r ih => rw [show evalEach (a :: r) env = eval a env :: evalEach r env from by first | rfl | simp [evalEach], ih]; rfl
    rw [e1]
    refine Calls.Constant_str ⟨m, _, rfl, ?_, one rfl fun y t h' tk k1 hy => ⟨y, t, rfl, ?_, ?_, h _ _ _ _ k1⟩⟩ <;> (rw [sizeLine_eq]; simp only [slen]; have : Str.empty.length = 0 := rfl; omega)
  | num hio m k p p1 p2 p3 hz =>
    obtain ⟨i, t0, rfl, hi⟩ := hu hio
    refine wpAny_JoinedStr ?_
    have e1 : ∀ l : List Expr, evalEach l env = l.map fun e => eval e env := fun l => by
      induction l with
      | nil => first | rfl | simp [evalEach]
      | cons a r ih => rw [show evalEach (a :: r) env = eval a env :: evalEach r env from by first | rfl | simp [evalEach], ih]; rfl
    rw [e1]
    have len := PyProof.Rows.int_text_len_1921 hi
    refine Calls.Constant_str ⟨m, _, rfl, ?_, wpAny_FormattedValue_plain (wpAny_Name (wpAny_loadName_local hk hl hn hv (wpAny_formatField_int hi ⟨_, _, rfl, ?_, ?_, h _ _ _ _ fun _ _ k => k⟩)) hd)⟩ <;> (rw [sizeLine_eq]; simp only [slen]; have : Str.empty.length = 0 := rfl; omega)
end
section
open Builtin Builtin.ObjectAttr
variable {P : Program} {w : World} {A : Around} {E : Value → Shared → Prop} {R : Result → Shared → Prop} {hp : Heap} {g : Array GenState} {d : Drawn} {t : Nat} {os : OsState}
/-- the first field of an exception -/
theorem first_field {K : PySem.W.Frag} {B : String} {bmB : List Value} {name : Str} {v : Value} {x C t0 : Addr} {Q : Unit → Shared → Prop} (SF : StoreFacts B bmB "object.__setattr__" "object") (KI : K.In hp)
    (hx : hp.get? x = some (PySem.W.excObj C t0 none .none)) (sa : PySem.W.findIn K (.ref C) "__setattr__" = some (some (.builtin "object.__setattr__"))) (over : PySem.W.excOver K C bmB = true) (tak : PySem.W.takerIn K C name = some none) (hh : PySem.W.hasDictIn K C = true)
    (fin : ∀ h' tk' dx, (∀ b o, b ≠ x → hp.get? b = some o → h'.get? b = some o) → hp.objs.size ≤ dx → dx ≠ x → h'.get? x = some (PySem.W.excObj C t0 (some dx) .none) →
      h'.Ns1 dx (fun y => if y = name then some v else none) → Q () ⟨h', g, d, tk', os⟩) :
    wpAny (model P w) A (setAttr (.ref x) name v) Q E ⟨hp, g, d, t, os⟩ := by
  have J : PySem.W.InstAt hp x (PySem.W.excObj C t0 none .none) C none := ⟨hx, rfl, rfl, trivial⟩
  refine PySem.W.set_plain KI J sa ?_
  refine PySem.W.osa_openX SF KI J over tak fun b => ?_
  have far : x ≠ hp.objs.size := Nat.ne_of_lt (Heap.lt_size hx)
  obtain ⟨cd, hc, hdd⟩ := PySem.W.any_some hh
  have look : PySem.W.Looks (model P w) hp (classData C) cd := PySem.W.looks_clsIn KI hc
  obtain ⟨nm, bs, mro, ns, qn, hd, sn, sb, ab, col, del⟩ := cd
  dsimp only at hdd
  subst hdd
  dsimp only
  unfold storeInOwnDict ownDictForStores
  repeat (first | with_reducible refine HandSPX.store_in_new ?_ ?_ | with_reducible refine wpAny_loadPart_at hx ?_ | with_reducible refine look.at ?_ | wp_step)
  · exact ⟨_, #[], _, ((Heap.get?_update_ne _ _ _ _ far.symm).trans (Heap.get?_push_at rfl rfl)), rfl, fun e he => absurd he (by simp), fun _ => rfl⟩
  · intro h' tk' hn' hs
    have up : (hp.push { cls := .type "dict", data := .dict #[] }).get? x = some (PySem.W.excObj C t0 none .none) := Heap.get?_push_of_some _ hx
    refine fin h' tk' hp.objs.size (fun b o hb ho => ?_) (Nat.le_refl _) far.symm ?_ hn'
    · rw [hs.2 b (Nat.ne_of_lt (Heap.lt_size ho)), Heap.get?_update_ne _ _ _ _ hb]
      exact Heap.get?_push_of_some _ ho
    · rw [hs.2 x far]
      exact Heap.get?_update_self _ up rfl
end
/-- what the written part says of such a class -/
structure SupC (P : Program) (K : PySem.W.Frag) (mg : Str → Option Value) (C : Addr) (fld sf x : Str) (msg : Expr) (B newId i : String) (bmB : List Value) (fI cda cc : Addr) (qual : Str) (st : Stmt) : Prop where
  FB : ExcBaseFacts B newId i bmB
  KF : PySem.W.KxsFacts B i
  SF : StoreFacts B bmB "object.__setattr__" "object"
  ini : PySem.W.excInitIn K C bmB newId = true
  over : PySem.W.excOver K C bmB = true
  iC : PySem.W.findIn K (.ref C) "__init__" = some (some (.ref fI))
  tI : PySem.W.typeIn K (.ref fI) = some (.type "function")
  lf : ∃ (oc : Value) (od : Option Addr) (kV doc pm : Value) (an : Option Addr) (ct : Value) (osl : Array (Option Value)), K.lookup fI = some ⟨oc, od, .func (PySem.W.ksFn "__init__" qual (defArgs st) (defBody st) (defScope st) .none kV doc pm an (.ref cda) ct cc), osl⟩
  hcd : PySem.W.codeIn K (.ref cda) qual = true
  cod : ∃ (ccl : Value) (cdd : Option Addr) (vs : Array Value) (ccs : Array (Option Value)) (file : Str) (tf : Tok), K.lookup cda = some ⟨ccl, cdd, .fields vs, ccs⟩ ∧ vs[2]? = some (.str file tf) ∧ ((P.main.file : Str) == file) = true
  cel : ∃ (cl : Value) (cld : Option Addr) (csl : Array (Option Value)), K.lookup cc = some ⟨cl, cld, .cell (some (.ref C)), csl⟩
  sub : PySem.W.mroIn K C (.ref C) = some true
  nos : (P.main.scope.names.lookup ("super" : Str)).isSome = false
  mgs : mg "super" = none
  up : PySem.W.ks_superIn K C C "__init__" = some (some (.builtin i))
  hB : PySem.W.subIn K (.ref C) (.type B) = some true
  opq : PySem.W.nsIn K cStatics "thirdparty.any" = some none
  tak : PySem.W.takerIn K C fld = some none
  sa : PySem.W.findIn K (.ref C) "__setattr__" = some (some (.builtin "object.__setattr__"))
  hh : PySem.W.hasDictIn K C = true
  exC : PySem.W.subIn K (.ref C) (.type "BaseException") = some true
  tyC : PySem.W.typeIn K (.ref C) = some (.type "type")
  kC : PySem.W.keepIn K (.ref C) = true
  body : ∃ p0 p1 p2 p3 p4 p5 p6 p7 p8 : Pos, (p2.endLine == p3.line) = true ∧ defBody st = [.Expr (.Call (.Attribute (.Call (.Name "super" p0) [] [] p1) "__init__" p2) [msg] [] p3) p4, .Assign [.Attribute (.Name sf p5) fld p6] (.Name x p7) p8]
  txt : MsgK (fld == ("limit" : Str)) x msg
  head : ∃ ar, ((defArgs st).posonlyargs ++ (defArgs st).args).head? = some ar ∧ ar.arg = sf
  bind : ∀ (kV doc pm : Value) (an : Option Addr) (ct u0 u1 : Value), bindArgs (PySem.W.ksFn "__init__" qual (defArgs st) (defBody st) (defScope st) .none kV doc pm an (.ref cda) ct cc) ⟨[u0, u1], []⟩ = pure [(sf, u0), (x, u1)]
  s1 : (defScope st).names.lookup ("super" : Str) = some .globalImplicit
  s2 : (defScope st).names.lookup ("__class__" : Str) = some .free
  s3 : (defScope st).names.lookup sf = some .local
  s4 : (defScope st).names.lookup x = some .local
  kind : (defScope st).kind = .function
  co : (defScope st).isCoroutine = false
  gen : (defScope st).isGenerator = false
  nc : ∀ y ∈ (defScope st).names, y.2 ≠ .cell
  dx : (x == ("__debug__" : Str)) = false
  ds : (sf == ("__debug__" : Str)) = false
  ne : sf ≠ x
theorem Tell.keeps {h h' : Heap} {u : Value} (t : Tell h u) (k : ∀ b o, h.get? b = some o → h'.get? b = some o) : Tell h' u := by
  obtain ⟨p, as, y, r, e⟩ := t
  exact ⟨p, as, y, PyProof.Rows.Reads.keeps k r, e⟩
section
open PySem.W
variable {P : Program} {w : World} {A : Around} {R : Result → Shared → Prop} {h0 hp : Heap} {g : Array GenState} {d : Drawn} {t : Nat} {os : OsState}
variable {K : PySem.W.Frag} {mg : Str → Option Value} {C : Addr} {fld sf x : Str} {msg : Expr} {B newId i : String} {bmB : List Value} {fI cda cc : Addr} {qual : Str} {st : Stmt}
theorem init_walk (T : SupC P K mg C fld sf x msg B newId i bmB fI cda cc qual st) {e t0 : Addr} {u : Value} (MD : L2.Mod K mg h0) (k0 : ∀ b o, h0.get? b = some o → hp.get? b = some o) (hx : hp.get? e = some (excObj C t0 none .none)) (he0 : h0.get? e = none) (sz : h0.objs.size ≤ hp.objs.size)
    (tl : Tell h0 u) (hu : (fld == ("limit" : Str)) = true → SmallI u) (gd : A.guards = some []) (un : A.units + 120 < cLine) (dep : A.depth < recursionLimit)
    (fin : ∀ h' tk dx t1, (∀ b o, h0.get? b = some o → h'.get? b = some o) → h0.objs.size ≤ dx → dx ≠ e → h'.get? e = some (excObj C t1 (some dx) .none) → h'.Ns1 dx (fun y => if y = fld then some u else none) → R (.ok (.ret .none)) ⟨h', g, d, tk, os⟩) :
    codeAny (model P w) A (.call (.ref fI) ⟨[.ref e, u], []⟩) R ⟨hp, g, d, t, os⟩ := by
  obtain ⟨oc, od, kV, doc, pm, an, ct, osl, lf⟩ := T.lf
  obtain ⟨ccl, cdd, vs, ccs, file, tf, lc, hvs, hfile⟩ := T.cod
  obtain ⟨cl, cld, csl, lcc⟩ := T.cel
  obtain ⟨p0, p1, p2, p3, p4, p5, p6, p7, p8, hln, hbd⟩ := T.body
  obtain ⟨ar, har, ear⟩ := T.head
  obtain ⟨mb, hb1, hb2⟩ := MD.blt
  have KI : K.In hp := MD.kin.keeps k0
  refine ks_codeAny_call_defAt (s := ⟨hp, g, d, t, os⟩) (body := defBody st) (binds := [(sf, .ref e), (x, u)]) dep (KI _ _ lf) rfl (MD.nolimit.keeps k0) (codeRec_of KI T.hcd) rfl (BindsTo.of_eq (T.bind _ _ _ _ _ _ _)) T.nc (fun y hy => ?_) (fun h₁ hns hk₁ => ?_) T.co T.gen T.kind
  · rcases List.mem_cons.mp hy with z | z
    · rw [z]; exact T.s3
    · rw [List.mem_singleton] at z; rw [z]; exact T.s4
  generalize hL : hp.objs.size = L at hns
  have F1 : PyProof.Rows.Fr h0 L h₁ (fun y => [(sf, Value.ref e), (x, u)].reverse.lookup y) := ⟨hns, fun b o z => hk₁ b o (k0 b o z), by rw [← hL]; exact sz⟩
  have hxL : e ≠ L := by rw [← hL]; exact Nat.ne_of_lt (Heap.lt_size hx)
  have N1 : PyProof.Rows.News h0 L h₁ [(e, excObj C t0 none .none)] := fun p hp => by
    rw [List.mem_singleton] at hp
    subst hp
    exact ⟨hk₁ _ _ hx, hxL, he0⟩
  obtain ⟨m1, em, gm, gx⟩ : ∃ m1 : Str → Option Value, (fun y => [(sf, Value.ref e), (x, u)].reverse.lookup y) = m1 ∧ m1 sf = some (.ref e) ∧ m1 x = some u := by
    refine ⟨_, rfl, ?_, ?_⟩
    · have : (sf == x) = false := by simpa using T.ne
      simp [List.lookup, this]
    · simp [List.lookup]
  rw [em] at F1
  clear hns
  generalize hE : callEnv (ksFn "__init__" qual (defArgs st) (defBody st) (defScope st) .none kV doc pm an (.ref cda) ct cc) L fI = env
  have eL : env.locals = L := by rw [← hE]; rfl
  have eS : env.scope = defScope st := by rw [← hE]; rfl
  have eC : env.cells = [(("__class__" : Str), cc)] := by rw [← hE]; rfl
  have eG : env.globals = mainGlobals := by rw [← hE]; rfl
  have eB : env.builtins = builtinsNs := by rw [← hE]; rfl
  have kind : env.scope.kind = .function := by rw [eS]; exact T.kind
  have ko : ∀ {y k}, (defScope st).names.lookup y = some k → env.kindOf y = some k := fun {y k} z => by
    show env.scope.names.lookup y = _
    rw [eS]; exact z
  rw [hbd]
  have he : ∃ pl : Sem Bool, eval (.Call (.Attribute (.Call (.Name "super" p0) [] [] p1) "__init__" p2) [msg] [] p3) env = (do
      let ov ← attributeBase (.Call (.Name "super" p0) [] [] p1) "__init__" env (eval (.Call (.Name "super" p0) [] [] p1) env)
      standAt p2.atName
      let (f, first) ← holding [ov] (getMethod ov "__init__" pl)
      callWith p3 f first (backTo p3 (starEach [msg] env)) []) := by
    have key : ∀ (args : List (Bool × Sem Value)) (ov : Value), methodCallForm 1 args [] = true → methodCall (.Call (.Name "super" p0) [] [] p1) "__init__" p2 p3 env ov 1 args [] =
        (do let (f, first) ← holding [ov] (getMethod ov "__init__" (do return (← importBound (.Call (.Name "super" p0) [] [] p1) env).getD true)); callWith p3 f first args []) := fun args ov hf => by
      unfold methodCall methodCallPos calleeOf
      rw [hf, hln]
      rfl
    refine ⟨do return (← importBound (.Call (.Name "super" p0) [] [] p1) env).getD true, ?_⟩
    have go : eval (.Call (.Attribute (.Call (.Name "super" p0) [] [] p1) "__init__" p2) [msg] [] p3) env = (do
      let ov ← attributeBase (.Call (.Name "super" p0) [] [] p1) "__init__" env (eval (.Call (.Name "super" p0) [] [] p1) env)
      standAt p2.atName
      methodCall (.Call (.Name "super" p0) [] [] p1) "__init__" p2 p3 env ov 1 (backTo p3 (starEach [msg] env)) []) := by cases T.txt <;> rfl
    rw [go]
    congr 1
    funext ov
    congr 1
    funext _
    exact key _ ov (by cases T.txt <;> rfl)
  obtain ⟨pl, he⟩ := he
  have eI : interactive env = false := by unfold interactive; simp [kind]
  have KH : ∀ {h : Heap}, (∀ b o, h0.get? b = some o → h.get? b = some o) → K.In h := fun k => MD.kin.keeps k
  have h01 := F1.keep
  refine ks_wpAt_execs_cons (ks_wpAt_Expr_any (ks_wpAt_MethodCall (pl := pl) ?_ he) eI)
  refine ks_wpAt_super_base (ko T.s1) (ko T.s2) (by decide) (show env.func = some fI by rw [← hE]; rfl) (KH h01 _ _ lf) rfl har (show env.code = .ref cda by rw [← hE]; rfl) (KH h01 _ _ lc) rfl hvs hfile T.nos ?_
  refine ks_loadName_global kind (ko T.s1) (Calls.loadGlobal_builtin (by rw [eG]; exact MD.glob.keeps h01) T.mgs (by rw [eB]; exact hb1.keeps h01) ((hb2 _ (by decide +kernel)).trans (show bootBuiltins "super" = some (.type "super") by kernel_rfl)) ⟨rfl, ?_⟩)
  refine wpAny_loadName_free kind (ko T.s2) (by rw [eC]; rfl) ⟨_, KH h01 _ _ lcc, rfl⟩ ?_
  rw [ear]
  refine wpAny_loadName_local kind (ko T.s3) (by rw [eL]; exact F1.ns) gm ?_
  obtain ⟨nm, nN, qn, bs, bm, hdct, sn, sb, ab, col, dd, k0', k1', k2', k3', k5', hC, hT⟩ := excInit_of (KH h01) T.ini
  refine ks_wpAny_isType_cls hC rfl ⟨rfl, ?_⟩
  refine ks_wpAny_call_super hC rfl (N1 _ (List.mem_singleton.mpr rfl)).1 rfl (fun c z => by cases z) (looks_mroIn (KH h01) T.sub) (fun h2 eso k2 => ?_)
  obtain ⟨F2, N2, lt2⟩ := ks_newsPush (s := ⟨h₁, g, d, t + 2, os⟩) F1 N1 rfl eso k2
  have J2 : InstAt h2 e (excObj C t0 none .none) C none := ⟨(N2 _ (List.mem_cons_of_mem _ (List.mem_singleton.mpr rfl))).1, rfl, rfl, trivial⟩
  refine kxs_method (s := ⟨h2, g, d, _, os⟩) T.KF F2 MD.kin N2 List.mem_cons_self J2 T.opq T.up T.hB (by decide) (fun q h3 F3 N3 lt3 => ?_)
  have hq : (q, kxs_mw i e) ∈ (q, kxs_mw i e) :: (h₁.objs.size, ks_superObj C e C) :: [(e, excObj C t0 none .none)] := List.mem_cons_self
  have hst : starEach [msg] env = (false, eval msg env) :: starEach [] env := by cases T.txt <;> rfl
  refine kxs_callWith1 (s := ⟨h3, g, d, _, os⟩) N3 hq ?_ hst (by rfl)
  have tl3 : Tell h3 u := tl.keeps F3.keep
  rw [hst]
  show wpAny _ _ (spliced ((false, eval msg env) :: backTo p3 (starEach [] env))) _ _ _
  refine Calls.spliced_cons (msg_ok (s := ⟨h3, g, d, _, os⟩) T.txt hu kind (ko T.s4) T.dx (by rw [eL]; exact F3.ns) gx tl3 (show (A.deeper env).guards = some [] from gd) (show A.units + 3 + 100 < cLine by omega) fun y ty h4 tk4 k4 => ?_)
  have F4 : PyProof.Rows.Fr h0 L h4 m1 := ⟨F3.ns.keeps k4, fun b o z => k4 _ _ (F3.keep b o z), F3.above⟩
  have N4 : PyProof.Rows.News h0 L h4 ((q, kxs_mw i e) :: (h₁.objs.size, ks_superObj C e C) :: [(e, excObj C t0 none .none)]) := fun p hp => ⟨k4 _ _ (N3 p hp).1, (N3 p hp).2⟩
  refine Calls.spliced_nil ⟨kxs_at N4 hq, ?_⟩
  have hes : e < h₁.objs.size := Heap.lt_size (N1 _ (List.mem_singleton.mpr rfl)).1
  have hqe : e < q := lt3 (e, excObj C t0 none .none) (List.mem_cons_of_mem _ (List.mem_singleton.mpr rfl))
  refine kxs_call (s := ⟨h4, g, d, tk4, os⟩) F4 MD.kin N4 T.FB T.ini hq (.tail (Nat.ne_of_gt hqe) (.tail (Nat.ne_of_gt hes) (.head (fun _ z => by simp at z)))) (by rw [sizeLine_eq]; simp) (fun t5 h5 F5 N5 _ => ?_)
  have x5 : h5.get? e = some (excObj C t5 none .none) := (N5 (e, excObj C t5 none .none) (by simp)).1
  refine ks_wpAt_execs_cons (wpAt_of_wpAny (plainObj_wpAny_Assign_Attribute (wpAny_Name (wpAny_loadName_local kind (ko T.s4) (by rw [eL]; exact F5.ns) gx ?_) T.dx) (by rfl)))
  refine wpAny_Name (wpAny_loadName_local kind (ko T.s3) (by rw [eL]; exact F5.ns) gm ?_) T.ds
  refine first_field T.SF (KH F5.keep) x5 T.sa T.over T.tak T.hh (fun h6 tk6 dx k6 sz6 ne6 hx6 hn6 => ?_)
  refine wpAt_of_wpAny (wpAny_execs_nil ?_)
  have big : h0.objs.size ≤ dx := Nat.le_trans (Nat.le_trans F5.above (Nat.le_of_lt F5.ns.lt)) sz6
  exact fin h6 tk6 dx t5 (fun b o z => k6 b o (fun y => by rw [y, he0] at z; cases z) (F5.keep b o z)) big ne6 hx6 hn6
end
/-- C(e): such an error is made -/
theorem pmk_sup {X : Cx} {C : Addr} {fld sf x : Str} {msg : Expr} {B newId i : String} {bmB : List Value} {fI cda cc : Addr} {qual : Str} {st : Stmt} (T : SupC X.prog X.K X.mg C fld sf x msg B newId i bmB fI cda cc qual st) {cn : Str} {k : Nat} {e : Expr} {te : TE} {p pos : Pos}
    (he : PE X e te) (hg : Gl X cn) (hm : X.mg cn = some (.ref C)) (hr : Room (k + 1) X.A) (gd : X.A.guards = some []) (hdb : (cn == ("__debug__" : Str)) = false) (hst : starEach [e] X.env = (false, eval e X.env) :: starEach [] X.env) :
    PMk X (.Call (.Name cn p) [e] [] pos) (fun σ H Q => te σ H fun v H1 => ((∃ (d : PyData) (y : Str), Dp X.K H1 v d ∧ reprOf d = some y ∧ y.length ≤ 1000000) ∧ ((fld == ("limit" : Str)) = true → ∃ i : Int, v = .int i ∧ i.natAbs.log2 < 1920)) ∧ ∀ dx, H1 dx = none → Q (.ref C) (some dx) (upd H1 dx (.xd [(fld, v)]))) := by
  intro pins s σ H Q I h
  refine wpAny_Call_Name_kw (ld_glob I hg hm ?_ hdb)
  refine PySem.W.callWith_K (h₀ := X.base) I.ok.mod.kin T.kC (thn ((pa_cons he pa_nil hst).run pos pins s σ H (fun vs H1 => match vs with
    | [v] => ((∃ (d : PyData) (y : Str), Dp X.K H1 v d ∧ reprOf d = some y ∧ y.length ≤ 1000000) ∧ ((fld == ("limit" : Str)) = true → ∃ i : Int, v = .int i ∧ i.natAbs.log2 < 1920)) ∧ ∀ dx, H1 dx = none → Q (.ref C) (some dx) (upd H1 dx (.xd [(fld, v)]))
    | _ => False) I h) fun us s1 hh => ?_) hst (by rfl)
  obtain ⟨vs, H1, I1, r1, z⟩ := hh
  split at z
  case h_2 => exact z.elim
  rename_i v
  obtain ⟨⟨⟨dd, y, hd, hy, hyl⟩, hio⟩, q⟩ := z
  refine ⟨I1.kIn, ?_⟩
  cases r1 with
  | @cons _ u _ us' ru rn =>
  cases rn
  obtain ⟨as, rds⟩ := Dp.reads I1 dd v u hd ru
  obtain ⟨hp, g, dr, tk, os⟩ := s1
  obtain ⟨nm, nN, qn, bs, bm, hdct, sn, sb, ab, col, od, k0', k1', k2', k3', k5', hC, hT⟩ := PySem.W.excInit_of I1.kIn T.ini
  have rm := hr.make C [u] []
  have MD : L2.Mod X.K X.mg hp := ⟨I1.kIn, I1.mod.glob.keeps I1.bk, (let ⟨mb, h1, h2⟩ := I1.mod.blt; ⟨mb, h1.keeps I1.bk, h2⟩), I1.mod.nolimit.keeps I1.bk⟩
  have none1 : hp.get? (hp.objs.size + 1) = none := by
    cases z : hp.get? (hp.objs.size + 1) with
    | none => rfl
    | some o => exact absurd (Heap.lt_size z) (Nat.not_lt.mpr (Nat.le_succ _))
  have nH : H1 (hp.objs.size + 1) = none := I1.hok.fresh (Nat.le_succ _)
  have small : (fld == ("limit" : Str)) = true → SmallI u := fun z => by
    obtain ⟨i, ev, hi⟩ := hio z
    subst ev
    obtain ⟨t0, eu⟩ := ru
    exact ⟨i, t0, eu, hi⟩
  show wpAny _ _ (call (.ref C) [u]) _ _ _
  refine wpAny_call (HandSPX.call_own T.FB hT hC (PySem.W.looks_findIn I1.kIn T.iC) (fun sl => PySem.W.bind_fn I1.kIn sl T.tI) (by rw [sizeLine_eq]; simp) (init_walk T MD (fun b o z => Heap.get?_push_of_some _ (Heap.get?_push_of_some _ z)) (t0 := hp.objs.size) (by heap_get) none1
    (by rw [Heap.size_push, Heap.size_push]; omega) ⟨dd, as, y, rds, hy, hyl⟩ small (by unfold Around.under; dsimp only; rw [gd]; rfl) (by have := rm.un; omega) rm.depth fun h6 tk6 dx t1 k6 sz6 ne6 hx6 hn6 => ⟨rfl, ?_⟩))
  obtain ⟨G, g1, g2⟩ := restrict h6 fun b => decide (b ≠ hp.objs.size + 1)
  have gk : ∀ b, b ≠ hp.objs.size + 1 → G.get? b = h6.get? b := fun b hb => g1 b (decide_eq_true hb)
  have ge : G.get? (hp.objs.size + 1) = none := g2 _ (by simp)
  have kG : ∀ b o, hp.get? b = some o → G.get? b = some o := fun b o z => by
    rw [gk b (fun e => by rw [e, none1] at z; cases z)]
    exact k6 b o z
  have J := I1.laid (t' := tk6) (a := dx) (o := .xd [(fld, v)]) (h' := G) kG sz6 ⟨_, hn6.at fun o z => (gk dx ne6).trans z, relO_put (fs := []) ru fun _ => True.intro⟩
  refine ⟨hp.objs.size + 1, _, _, ⟨G, g, dr, tk6, os⟩, _, .ref C, some dx, rfl, J, fun b o z => ?_, ge, hx6, ⟨rfl, rfl⟩, rfl, rfl, ?_, rfl, I1.bare, raises_own T.exC T.tyC, q dx (I1.hok.fresh sz6)⟩
  · by_cases hb : b = hp.objs.size + 1
    · rw [hb, ge] at z; cases z
    · rw [← gk b hb]; exact z
  · rw [upd_ne (Ne.symm ne6)]
    exact nH
end Q
end
section
-- SndS
set_option Elab.async false
set_option linter.all false
set_option maxRecDepth 100000
set_option maxHeartbeats 4000000
namespace Q
open PySem PySem.Spec PyProof.Rows L2
/-- an error's class as it is written -/
inductive ErrK (P : Program) (K : PySem.W.Frag) (mg : Str → Option Value) (Ca : Addr) (fld : Str) : Bool → Prop
  | plain {B newId initId : String} {bmB : List Value} (F : ExcBaseFacts B newId initId bmB) (q : PySem.W.excIn K Ca bmB newId = true) (kC : PySem.W.keepIn K (.ref Ca) = true) (exC : PySem.W.subIn K (.ref Ca) (.type "BaseException") = some true) (tyC : PySem.W.typeIn K (.ref Ca) = some (.type "type")) : ErrK P K mg Ca fld false
  | kept {sf x : Str} {msg : Expr} {B newId i : String} {bmB : List Value} {fI cda cc : Addr} {qual : Str} {st : Stmt} (T : SupC P K mg Ca fld sf x msg B newId i bmB fI cda cc qual st) : ErrK P K mg Ca fld true
section
variable {RX : RXT} {C : Ctx} {call : Nat → List D → Store → Res R} {m : Nm} {X : Cx} {W : WX} {Ex : XK}
theorem sRaise (st : Site RX C call m X W) (hE : ∀ σ c d H, Ex c d H → W c d σ H) (hr : Room 1 X.A)
    (er : ∀ c k, m.exk[c]? = some k → c < RX.n ∧ C.excs[c]? = some k ∧ X.mg (nmOf m.ex c) = some (.ref (RX.tb c).1) ∧ ErrK X.prog X.K X.mg (RX.tb c).1 (RX.tb c).2 k ∧ (((RX.tb c).2 == ("limit" : Str)) = true → C.exi.contains c = true)) {c : Nat} {e : E} {ps : PL} (h : kS m (.raise c e) ps = true) :
    PS X (pS m (.raise c e) ps).1 (tSS RX X.K Ex (evS C call (.raise c e))) := by
  rw [kS, Bool.and_eq_true, Bool.and_eq_true, Bool.and_eq_true] at h
  obtain ⟨⟨⟨k1, k2⟩, k3⟩, k4⟩ := h
  obtain ⟨g1, g2, g3⟩ := st.g k3
  rw [pS]
  unfold rOk at k4
  split at k4
  case h_3 => cases k4
  case h_1 =>
    rename_i ek
    obtain ⟨e0, e1, e2, e3, e4⟩ := er c true ek
    cases e3 with
    | kept T =>
      refine (ps_raise st.calm st.tk (pmk_sup T (sE e m X W _ st k1).1 g1 e2 hr st.gd g2 (star_cons _ m e _ []))).imp fun D σ H hq => ?_
      obtain ⟨ρ, μ, S, t, r, z⟩ := hq
      rw [evS] at z
      refine seqH hE .refl t r z fun d S1 H1 μ1 v st1 s1 t1 r1 rd h1 => ?_
      rw [e1] at h1
      obtain ⟨y, ey, h2⟩ := Out.opt (show Out RX X.K Ex H μ (Q.opt (reprR S1 (.v d)) fun y => if Nat.ble y.length 1000000 && (!C.exi.contains c || isI d) then .err ⟨c, some d⟩ S1 else .bad) _ from h1)
      split at h2
      case isFalse => exact h2.elim
      rename_i hy
      rw [Bool.and_eq_true] at hy
      obtain ⟨hy, hx⟩ := hy
      unfold reprR at ey
      obtain ⟨p, p1, p2⟩ := Option.bind_eq_some_iff.mp ey
      refine ⟨⟨⟨p, y, dpR (H0 := H) t1 (show RR X.K H H1 μ1 (.v d) v from rd) p1, p2, Nat.ble_eq.mp hy⟩, fun z => ?_⟩, fun dx hdx => hE σ _ _ _ (h2 _ μ1 _ _ (st1.new hdx) (t1.new hdx) ⟨e0, rfl, fun dv ev => ?_⟩)⟩
      case refine_2 =>
       cases ev
       exact ⟨dx, v, rfl, upd_same, rd.step (StepD.grow (D := none) (grow_upd hdx))⟩
      case refine_1 =>
       rw [e4 z] at hx
       unfold isI at hx
       split at hx
       · cases rd
         exact ⟨_, rfl, Nat.blt_eq.mp hx⟩
       · cases hx
  case h_2 =>
    rename_i ek
    obtain ⟨e0, e1, e2, e3, _⟩ := er c false ek
    split at k4
    case h_2 => cases k4
    cases e3 with
    | plain F q kC exC tyC =>
      rw [pE]
      refine (ps_raise st.calm st.tk (pmk_own F q e2 kC (raises_own exC tyC) g1 g2)).imp fun D σ H hq => ?_
      obtain ⟨ρ, μ, S, t, r, z⟩ := hq
      rw [evS, evE, Res.bind_ok] at z
      unfold settle at z
      dsimp only at z
      rw [e1] at z
      exact hE σ _ _ _ ((show Out RX X.K Ex H μ (.err ⟨c, none⟩ S : Res Fl) _ from z) H μ _ _ .refl t ⟨e0, rfl, fun dv ev => by cases ev⟩)
end
end Q
end
section
-- SndF
set_option Elab.async false
set_option linter.all false
set_option maxRecDepth 100000
set_option maxHeartbeats 4000000
namespace Q
open PySem PySem.Spec PyProof.Rows L2
/-! ### a comprehension whose element knows the state of the frame around -/
section
variable {X : Cx} {pins : List (Addr × Obj)} {σ : L2.St} {H : Hp} {s : Shared} {Q : VK}
abbrev inBlk (X : Cx) (s : Shared) (H : Hp) (sc : Scope) (Ce : Addr) (cl : List (Str × Addr)) (fp : List Addr) : Cx := X.blk s H sc (compEnvC sc cl Ce X.env) fp
theorem lc_back {elt tg iter : Expr} {sc : Scope} {own : List (Str × Nat)} {pos : Pos} {wi : TI} {g : TG} {te : TE} (cal : X.calm = true) (nd : X.N.Nodup) (I : Inv X pins σ H s) (hi : PI X tg iter wi) (ok : BlkOk X.N X.env.scope sc own)
    (hg : ∀ s H Ce cl fp, PG (inBlk X s H sc Ce cl fp) tg g)
    (he : ∀ s H Ce cl fp, (∀ pb σb Hb sb, Inv (inBlk X s H sc Ce cl fp) pb σb Hb sb → Inv X pins σ Hb sb) → PE (inBlk X s H sc Ce cl fp) elt te)
    (hs : ∀ x, foldedSetIterable iter X.env x = pure x) (h : tLc wi g tYes te (own.map (·.2)) σ H Q) :
    wpAny (model X.prog X.w) X.A (eval (.ListComp elt [⟨tg, iter, [], 0⟩] sc pos) X.env) (EP X pins σ Q) X.xe s := by
  rw [eval_ListComp]
  have free : ∀ y ∈ sc.names, y.2 = .free → ∃ c, X.env.cells.lookup y.1 = some c := fun y hy e => I.ok.has _ (ok.free y hy e)
  refine wpAny_comprehension_free (use := none) rfl hs (closure_ok free) ok.kind (fun y hy e => by rw [ok.uniq y hy, e]) (thn (hi.run pins s σ H _ I h) fun xv sA hA => thn hA fun itv sB hB => ?_)
  obtain ⟨it, fp, tn, J, HB, rfl, IB, T, tB, fB, q⟩ := hB
  refine wpAny_newObj_type (newEnv_comp ?_) (Nat.zero_le _)
  obtain ⟨D, hD⟩ : ∃ D, sB.heap.objs.size = D := ⟨_, rfl⟩
  rw [hD]
  have freshD : HB D = none := IB.hok.fresh (Nat.le_of_eq hD)
  obtain ⟨Wk, ⟨n0, w0⟩, turn⟩ := q D freshD
  generalize hC : ({ sB with heap := sB.heap.push { cls := .type "list", data := .seq ([] : List Value).toArray } } : Shared) = sC
  have heapC : sC.heap = sB.heap.push { cls := .type "list", data := .seq ([] : List Value).toArray } := by rw [← hC]
  have IC : Inv X pins σ (upd HB D (.lst [])) sC := by
    rw [← hC, ← hD]
    exact IB.laid (t' := sB.toks) (fun b o e => Heap.get?_push_of_some _ e) (Nat.le_refl _) ⟨Nat.zero_le _, [], 0, .nil, Heap.get?_push_size _ rfl⟩
  have below : ∀ b ∈ fp, b < sB.heap.objs.size := fun b hb => let ⟨_, e, _⟩ := T.obj _ _ tB b hb; Heap.lt_size e
  have fC : ∀ b ∈ fp, FpOk X pins (upd HB D (.lst [])) b ∧ b < sC.heap.objs.size := fun b hb => by
    have lt := below b hb
    have neD : b ≠ D := by rw [← hD]; exact Nat.ne_of_lt lt
    refine ⟨⟨?_, (fB b hb).2⟩, ?_⟩
    · rw [upd_ne neD]; exact (fB b hb).1
    · rw [heapC, Heap.size_push]; exact Nat.lt_succ_of_lt lt
  have tC : tn 0 sC.heap := T.keep _ _ _ tB fun b _ o e => by rw [heapC]; exact Heap.get?_push_of_some _ e
  generalize hHC : upd HB D (.lst []) = HC at IC fC w0
  have hfpC : ∀ b ∈ fp, HC b = none := fun b hb => (fC b hb).1.1
  have start := block_start IC ok nd fC
  have back : ∀ Ce cl pb σb Hb sb, Inv (inBlk X sC HC sc Ce cl fp) pb σb Hb sb → Inv X pins σ Hb sb := fun Ce cl pb σb Hb sb Ib =>
    IC.call' (ch := fp) Ib.os Ib.base Ib.hok Ib.bare fun b hb => let z := (fC b hb).1.2; ⟨z.2.2.1, z.1, z.2.2.2.1, z.2.2.2.2⟩
  obtain ⟨cl, hcl⟩ : ∃ cl, cellsFrom (sC.heap.objs.size + 1) sc.names (cloFrom X.env.cells sc.names []) = cl := ⟨_, rfl⟩
  rw [hcl] at start
  have pg := hg sC HC sC.heap.objs.size cl fp
  have bk := back sC.heap.objs.size cl
  have pe := he sC HC sC.heap.objs.size cl fp bk
  show codeAny _ _ (.compStart (.ListComp elt [⟨tg, iter, [], 0⟩] sc pos) 0 (.ref it) (.ref D) (compEnvC sc (cellsFrom (sC.heap.objs.size + 1) sc.names (cloFrom X.env.cells sc.names [])) sC.heap.objs.size X.env))
    (compPost (model X.prog X.w) X.A X.xe none (EP X pins σ Q) (.ref D) sC.heap.objs.size) { sC with heap := pushCells (sC.heap.push { cls := .type "dict", data := .dict #[] }) sc.names }
  rw [hcl]
  unfold inBlk at pg pe bk
  obtain ⟨ce, hce⟩ : ∃ ce, compEnvC sc cl sC.heap.objs.size X.env = ce := ⟨_, rfl⟩
  have loc : ce.locals = sC.heap.objs.size := by rw [← hce]; rfl
  rw [hce] at start pg pe bk ⊢
  obtain ⟨sD, hsD⟩ : ∃ sD : Shared, { sC with heap := pushCells (sC.heap.push { cls := .type "dict", data := .dict #[] }) sc.names } = sD := ⟨_, rfl⟩
  rw [hsD] at start ⊢
  have tD : tn 0 sD.heap := T.keep _ _ _ tC fun b _ o e => by rw [← hsD]; exact pushCells_keeps _ _ _ _ (Heap.get?_push_of_some _ e)
  have own0 : ∀ {σ' H' s'}, Inv (X.blk sC HC sc ce fp) [] σ' H' s' → (∀ b ∈ fp, H' b = none) → ∀ b ∈ fp, FpOk (X.blk sC HC sc ce fp) [] H' b := fun {σ' H' s'} J0 hn b hb =>
    ⟨hn b hb, (J0.ok.exf b hb).1, J0.ok.exfs b hb, .inl hb, (J0.ok.exf b hb).2, fun p hp => absurd (show p ∈ ([] : List (Addr × Obj)) ++ [] from hp) (by simp)⟩
  have len : ∀ {σ' : L2.St}, L2.wipe σ' (own.map (·.2)) = L2.wipe σ (own.map (·.2)) → (L2.wipe σ (own.map (·.2))).length = σ'.length := fun {σ'} e => by rw [← e, L2.wipe_length]
  have loop : codeAny (model X.prog X.w) X.A (.compLoop (.ListComp elt [⟨tg, iter, [], 0⟩] sc pos) 0 (.ref it) (.ref D) ce) (compPost (model X.prog X.w) X.A X.xe none (EP X pins σ Q) (.ref D) sC.heap.objs.size) sD := by
    refine compLoop_any (fun n s' => ∃ i H', Inv (X.blk sC HC sc ce fp) [] (L2.wipe σ (own.map (·.2))) H' s' ∧ tn i s'.heap ∧ (∀ b ∈ fp, H' b = none) ∧ Wk i n H') ?_ n0 ⟨0, HC, start, tD, hfpC, w0⟩
    rintro n sE ⟨i, HE, IE, tE, nE, wE⟩
    rcases turn i n HE wE with ⟨stop, done⟩ | ⟨go, Nx, more, step⟩
    · refine thnF (T.done (X.blk sC HC sc ce fp) rfl rfl rfl cal i [] sE _ HE (fun _ _ => False) IE (own0 IE nE) tE stop) ?_
      rintro r sF ⟨rfl, IF⟩
      obtain ⟨mm, hn, _⟩ := IF.loc
      have hn : sF.heap.Ns ce.locals mm := hn
      have gone : HE ce.locals = none := IF.free
      rw [loc] at hn gone
      have IO := bk _ _ _ _ IF
      refine ⟨mm, hn, fun hh sb => ?_⟩
      obtain ⟨_, z1, z2, z3, z4, z5⟩ := IC.fpOk (H' := HE) (Nat.le_refl _) gone
      exact ⟨.ref D, HE, IO.turned (t' := sF.toks) (fun b o hb e => (sb.2 b hb).trans e) gone z1 z3 z4 z5, rfl, done⟩
    · refine thnF (T.item (X.blk sC HC sc ce fp) rfl rfl rfl cal i [] sE _ HE (fun _ _ => False) IE (own0 IE nE) tE go) ?_
      rintro r sF ⟨u, rfl, hF⟩
      refine thnF hF ?_
      rintro _ sG ⟨x, HG, IG, rx, yx, tG, nG⟩
      have IG' := IG.pinned (own0 IG nG) (T.obj _ _ tG)
      refine thnF (pg.run _ sG _ HG x u _ IG' rx (step x HG yx)) ?_
      rintro _ sI ⟨σI, HI, II, same, qI⟩
      show wpAny _ _ (forIn ([] : List Expr) true _) _ _ _
      refine thnF ((pts_nil (X := X.blk sC HC sc ce fp)).run _ sI σI HI _ II qI) ?_
      rintro b sJ ⟨HJ, IJ, qJ⟩
      have next : ∀ {s' H'}, Inv (X.blk sC HC sc ce fp) ([] ++ pinsAt fp sG.heap) σI H' s' → Nx H' → ∃ k, k < n ∧ ∃ i H', Inv (X.blk sC HC sc ce fp) [] (L2.wipe σ (own.map (·.2))) H' s' ∧ tn i s'.heap ∧ (∀ b ∈ fp, H' b = none) ∧ Wk i k H' := fun {s' H'} I' nx => by
        obtain ⟨k, hk, w'⟩ := more H' nx
        have held : ∀ b ∈ fp, ∀ o, sG.heap.get? b = some o → s'.heap.get? b = some o ∧ H' b = none := fun b hb o e =>
          have z := I'.pin (b, o) (List.mem_append_right _ (List.mem_append_right _ (mem_pinsAt hb e)))
          ⟨z.1, z.2.1⟩
        refine ⟨k, hk, i + 1, H', (I'.unpinned (pins := [])).weak (len same) (fun j v e => ?_), T.keep _ _ _ tG fun b hb o e => (held b hb o e).1, fun b hb => ?_, w'⟩
        · rw [← same] at e
          exact (L2.wipe_some e).1
        · obtain ⟨o, e, _⟩ := T.obj _ _ tG b hb
          exact (held b hb o e).2
      cases b with
      | false => exact next IJ qJ
      | true =>
        refine thnF (pe.run _ sJ σI HJ _ IJ qJ) ?_
        rintro z sK ⟨yv, HK, IK, rk, acc, hDK, hz, nx⟩
        exact app_ok (X := X.blk sC HC sc ce fp) IK hDK hz rk fun sL IL => next IL nx
  exact codeAny_compStart_list loop (T.self X.A 0 _ _ _ tD loop)
end
end Q
end
section
-- SndW
set_option Elab.async false
set_option linter.all false
set_option maxRecDepth 100000
set_option maxHeartbeats 4000000
namespace Q
open PySem PySem.Spec PyProof.Rows L2
/-! ### the def that calls what it got and tells what is raised -/
inductive HdW (RX : RXT) (K : PySem.W.Frag) (mg : Str → Option Value) (sg : Scope) (nm : Str) : List ExceptHandler → List Hdl → Prop
  | nil : HdW RX K mg sg nm [] []
  | plain {x txt : Str} {cls j : Nat} {p1 p2 p3 p4 : Pos} {hds : List ExceptHandler} {hs : List Hdl} (g : sg.names.lookup x = some .globalImplicit) (d : (x == ("__debug__" : Str)) = false) (mx : mg x = some (.ref (RX.tb cls).1)) (r : HdW RX K mg sg nm hds hs) :
      HdW RX K mg sg nm (.ExceptHandler (some (.Name x p1)) none [.Return (some (.Constant (.str txt) j p2)) p3] p4 :: hds) (⟨cls, txt, false⟩ :: hs)
  | rep {x txt fld : Str} {cls j : Nat} {p1 p2 p3 p4 p5 p6 p7 p8 p9 : Pos} {hds : List ExceptHandler} {hs : List Hdl} (g : sg.names.lookup x = some .globalImplicit) (d : (x == ("__debug__" : Str)) = false) (mx : mg x = some (.ref (RX.tb cls).1))
      (T : XfC K (RX.tb cls).1) (hf : fld = (RX.tb cls).2) (hno : PySem.W.findIn K (.ref (RX.tb cls).1) fld = some none) (r : HdW RX K mg sg nm hds hs) :
      HdW RX K mg sg nm (.ExceptHandler (some (.Name x p1)) (some nm) [.Return (some (.BinOp (.Constant (.str txt) j p2) .Add (.Call (.Name "repr" p3) [.Attribute (.Name nm p4) fld p5] [] p6) p7)) p8] p9 :: hds) (⟨cls, txt, true⟩ :: hs)
/-- a clause that tells the field -/
def tsR (K : PySem.W.Frag) (ei : Nat) (Ca : Addr) (fld txt : Str) : Addr → Value → Option Addr → TS := fun a c d D σ H =>
  (ei < σ.length → σ[ei]? = some (some (.ref a))) ∧ c = .ref Ca ∧ ∃ (dd : Addr) (fs : List (Str × L2.V)) (v : L2.V) (p : PyData) (y : Str), d = some dd ∧ H dd = some (.xd fs) ∧ fs.lookup fld = some v ∧ Dp K H v p ∧ reprOf p = some y ∧ txt.length + y.length ≤ sizeLine ∧ D.rt (.str (txt ++ y)) H
def clOf (RX : RXT) (K : PySem.W.Frag) (ei : Nat) (h : Hdl) : Clause :=
  (.ref (RX.tb h.cls).1, if h.rep then some ei else none, if h.rep then tsR K ei (RX.tb h.cls).1 (RX.tb h.cls).2 h.txt else fun _ _ _ => tRet (tC (.str h.txt)))
section
variable {RX : RXT} {X : Cx} {nm : Str} {ei : Nat}
theorem call_rep {X : Cx} (gd : X.A.guards = some []) (un : X.A.units + 100 < cLine) : CallR X (.builtin "repr") fun xs H Q => ∃ v p y, xs = [v] ∧ Dp X.K H v p ∧ reprOf p = some y ∧ Q (.str y) H := by
  intro pins s σ H xs us Q I r ⟨v, p, y, ex, hd, hy, q⟩
  subst ex
  obtain ⟨u, rfl, ru⟩ := vals1 r
  exact repr_ok I hd ru hy gd un fun t s' J => ⟨.str y, H, J, ⟨t, rfl⟩, q⟩
theorem hds_of {hds : List ExceptHandler} {hs : List Hdl} {sg : Scope} (hsg : X.env.scope = sg) (nd : X.N.Nodup) (hi : X.N[ei]? = some nm) (hl : sg.names.lookup nm = some .local) (hd1 : (nm == ("__debug__" : Str)) = false) (hd2 : (nm == ("__classdict__" : Str)) = false)
    (hr : sg.names.lookup ("repr" : Str) = some .globalImplicit) (mr : X.mg "repr" = none) (gd : X.A.guards = some []) (un : X.A.units + 100 < cLine) (h : HdW RX X.K X.mg sg nm hds hs) : HdsM X hds (hs.map (clOf RX X.K ei)) := by
  subst hsg
  induction h with
  | nil => exact .nil
  | plain g d mx r ih => exact .plain ⟨g, d, .inl mx⟩ (fun a oe cls dd pn _ _ => pss_one (ps_ret pe_str)) ih
  | @rep x txt fld cls j p1 p2 p3 p4 p5 p6 p7 p8 p9 hds hs g d mx T hf hno r ih =>
    subst hf
    refine .named nd hi hl ⟨g, d, .inl mx⟩ (fun a oe cl dd pn hz hfl => ?_) ih
    have nmE : PE (X.suite a ((a, oe) :: pn)) (.Name nm p4) (fun σ H Q => (ei < σ.length → σ[ei]? = some (some (.ref a))) ∧ Q (.ref a) H) := by
      refine ⟨fun pins s σ H Q I q => ?_⟩
      have lt : ei < σ.length := by rw [I.len]; exact (List.getElem?_eq_some_iff.mp hi).1
      exact (pe_var (X := X.suite a ((a, oe) :: pn)) (i := ei) hi (.inl hl) hd1 hd2).run pins s σ H Q I ⟨.ref a, q.1 lt, q.2⟩
    have xf := pe_xf (pos := p5) T hno hz hfl nmE
    have cr := pe_callB (X := X.suite a ((a, oe) :: pn)) (p := p3) (pos := p6) (call_rep (show (X.A.mark _).guards = _ from gd) (show (X.A.mark _).units + 100 < cLine from un)) hr mr (by decide +kernel) (pa_cons xf pa_nil) (by decide) (by decide)
    refine (pss_one (ps_ret (pos := p8) (pe_op (op := .Add) (pos := p7) op_add_str (pe_str (x := txt) (j := j) (pos := p2)) cr))).imp fun D σ H q => ?_
    obtain ⟨q1, q2, d1, fs, v, p, y, e1, e2, e3, e4, e5, e6, e7⟩ := (show tsR X.K ei (RX.tb cls).1 (RX.tb cls).2 txt a cl dd D σ H from q)
    exact ⟨q1, rfl, q2, d1, fs, v, e1, e2, e3, v, p, y, rfl, e4, e5, txt, y, rfl, rfl, e6, e7⟩
/-- the clause that takes an error -/
theorem wmix_of {K : PySem.W.Frag} {hs : List Hdl} {x : Exn} {S : Store} {y : Str} {μ : List Addr} {cls : Value} {d : Option Addr} {H : Hp} {D : Ends} (ex : ∀ h ∈ hs, ∀ c, c < RX.n → PySem.W.exmOne K (.ref (RX.tb c).1) (.ref (RX.tb h.cls).1) = some (h.cls == c))
    (low : ∀ dv, x.val = some dv → lowD 0 66 dv = true) (e : evHs hs x = some y) (hx : RX.x K μ x cls d H) (q : D.rt (.str y) H) : ∀ σ, wMix K (fun _ _ _ _ => False) D (hs.map (clOf RX K ei)) cls d σ H := by
  induction hs with
  | nil => cases e
  | cons h r ih =>
    intro σ
    have e1 : PySem.W.exmOne K cls (.ref (RX.tb h.cls).1) = some (h.cls == x.cls) := by
      rw [hx.2.1]
      exact ex h List.mem_cons_self _ hx.1
    obtain ⟨c, txt, rep⟩ := h
    unfold evHs at e
    dsimp only at e e1
    by_cases hc : (c == x.cls) = true
    · rw [if_pos hc] at e
      have ce : c = x.cls := eq_of_beq hc
      cases rep with
      | false =>
        rw [if_neg Bool.false_ne_true] at e
        cases e
        refine ⟨_, e1, fun _ a _ => q, fun z => (by rw [hc] at z; cases z)⟩
      | true =>
        rw [if_pos rfl] at e
        refine ⟨_, e1, fun _ a _ => ?_, fun z => by rw [hc] at z; cases z⟩
        cases ev : x.val with
        | none => rw [ev] at e; cases e
        | some dv =>
          rw [ev] at e
          obtain ⟨z, ez, e⟩ := Option.bind_eq_some_iff.mp e
          split at e
          case isFalse => cases e
          rename_i hz
          cases e
          obtain ⟨dd, v, h1, h2, h3⟩ := hx.2.2 dv ev
          unfold reprD reprR at ez
          obtain ⟨p, p1, p2⟩ := Option.bind_eq_some_iff.mp ez
          have dp : Dp K H v p := dpR (H0 := H) (μ := []) (S := []) ⟨rfl, List.nodup_nil, fun n c a h => by simp at h⟩ (show RR K H H [] (.v dv) v from h3.free (μ := []) 66 (low dv ev)) p1
          refine ⟨fun lt => List.getElem?_set_self (by simpa using lt), ?_, dd, _, v, p, z, h1, h2, ?_, dp, p2, ?_, q⟩
          · rw [hx.2.1, ce]
          · rw [ce]; simp [List.lookup]
          · rw [sizeLine_eq]; exact Nat.ble_eq.mp hz
    · have hcf : (c == x.cls) = false := by simpa using hc
      rw [if_neg hc] at e
      have rest := ih (fun h hm => ex h (List.mem_cons_of_mem _ hm)) e σ
      cases rep with
      | false => exact ⟨_, e1, fun z => (by rw [hcf] at z; cases z), fun _ => rest⟩
      | true => exact ⟨_, e1, fun z => (by rw [hcf] at z; cases z), fun _ => rest⟩
end
end Q
end
section
-- SndV
set_option Elab.async false
set_option linter.all false
set_option maxRecDepth 100000
set_option maxHeartbeats 4000000
namespace Q
open PySem PySem.Spec PyProof.Rows L2
/-- only the errors' table counts -/
theorem HdW.other {RX RX' : RXT} {K : PySem.W.Frag} {mg : Str → Option Value} {sg : Scope} {nm : Str} {hds : List ExceptHandler} {hs : List Hdl} (e : RX.tb = RX'.tb := by rfl) (h : HdW RX K mg sg nm hds hs) : HdW RX' K mg sg nm hds hs := by
  induction h with
  | nil => exact .nil
  | plain g d mx _ ih => exact .plain g d (by rw [← e]; exact mx) ih
  | rep g d mx T hf hno _ ih => exact .rep g d (by rw [← e]; exact mx) (by rw [← e]; exact T) (by rw [← e]; exact hf) (by rw [← e]; exact hno) ih
/-- such a def as it stands -/
structure WrdAt (RX : RXT) (K : PySem.W.Frag) (mg : Str → Option Value) (w : Wrd) (gname a nm : Str) (ga : Addr) (Ng : List Str) (ei : Nat) (st : Stmt) (h0 : ExceptHandler) (hds : List ExceptHandler) : Prop where
  lk : ∃ (oc : Value) (od : Option Addr) (dV kV doc pm : Value) (an : Option Addr) (cdv ct : Value) (osl : Array (Option Value)),
    K.lookup ga = some ⟨oc, od, .func (PySem.W.fnOf gname gname (defArgs st) (defBody st) (defScope st) dV kV doc pm an cdv ct), osl⟩ ∧ PySem.W.codeIn K cdv gname = true ∧ Binds K (PySem.W.fnOf gname gname (defArgs st) (defBody st) (defScope st) dV kV doc pm an cdv ct) [a] []
  sc : FnScope Ng [a] (defScope st)
  at_ : mg gname = some (.ref ga)
  kp : PySem.W.keepIn K (.ref ga) = true
  body : ∃ (p1 p2 p3 p4 p5 p6 : Pos) (j : Nat), defBody st = [.Try [.Expr (.Call (.Name a p1) [] [] p2) p3] (h0 :: hds) [] [] p4, .Return (some (.Constant (.str w.fine) j p5)) p6]
  hd : HdW RX K mg (defScope st) nm (h0 :: hds) w.hs
  a0 : Ng[0]? = some a
  av : Vis (defScope st) a
  ad : (a == ("__debug__" : Str)) = false
  ac : (a == ("__classdict__" : Str)) = false
  e1 : Ng[ei]? = some nm
  e2 : (defScope st).names.lookup nm = some .local
  ed : (nm == ("__debug__" : Str)) = false
  ec : (nm == ("__classdict__" : Str)) = false
  rp : (defScope st).names.lookup ("repr" : Str) = some .globalImplicit
  mr : mg "repr" = none
  exm : ∀ h ∈ w.hs, ∀ c, c < RX.n → PySem.W.exmOne K (.ref (RX.tb c).1) (.ref (RX.tb h.cls).1) = some (h.cls == c)
/-- a lambda of the frame X, its body's walk -/
structure LamAt (RX : RXT) (C : Ctx) (call : Nat → List D → Store → Res R) (X : Cx) (k j : Nat) (P : LamR) (L : Lam) : Prop where
  lam : ∀ f c, RX.lp.lam j f c = lamO (X.env.qual ++ "<lambda>") P.params P.body P.scope (cloFrom X.env.cells P.scope.names []) f c
  sc : LamX.LamS X.env.scope P.scope
  bind : ∀ (pm cv ctv : Value), bindArgs (PySem.W.kla_fn "<lambda>" (X.env.qual ++ "<lambda>") P.params P.body P.scope (cloFrom X.env.cells P.scope.names []) pm cv ctv) ⟨[], []⟩ = pure []
  walk : ∀ (A : Around) (up : List PySem.Env) (s : Shared) (H : Hp) (E : XK) (f c : Addr), A.guards = some [] → Room k (A.deeper (LamX.lamEnv X P.scope s.heap.objs.size f c)) → PE (LamX.lamCx X A up s H E P.scope f c) P.body (tE RX X.K (fun c d _ H => E c d H) (evE C call L.body))
def endW (Q : VK) (fine : Str) : Ends := { nx := fun _ H => Q (.str fine) H, rt := Q }
section
variable {RX : RXT} {C : Ctx} {call : Nat → List D → Store → Res R} {X : Cx} {w : Wrd} {gname a nm : Str} {ga : Addr} {Ng : List Str} {ei : Nat} {st : Stmt} {h0 : ExceptHandler} {hds : List ExceptHandler}
theorem pe_word (T : WrdAt RX X.K X.mg w gname a nm ga Ng ei st h0 hds) {pins : List (Addr × Obj)} {σ : L2.St} {s1 : Shared} {H1 : Hp} {sc : Scope} {Ce : Addr} {cl : List (Str × Addr)} {fp : List Addr} (back : ∀ pb σb Hb sb, Inv (inBlk X s1 H1 sc Ce cl fp) pb σb Hb sb → Inv X pins σ Hb sb)
    {k i : Nat} {xn : Str} {p1 p2 p3 : Pos} (hr : Room (k + 2) X.A) (gd : X.A.guards = some []) (hN : X.N[i]? = some xn) (xl : (relS sc X.env.scope).names.lookup xn = some .local) (xd : (xn == ("__debug__" : Str)) = false) (xc : (xn == ("__classdict__" : Str)) = false)
    (gl : (relS sc X.env.scope).names.lookup gname = some .globalImplicit) (gdb : (gname == ("__debug__" : Str)) = false) (hq : RX.lp.q = X.env.qual ++ "<lambda>") :
    PE (inBlk X s1 H1 sc Ce cl fp) (.Call (.Name gname p1) [.Name xn p2] [] p3) (fun σ' H' Q => ∃ (j : Nat) (P : LamR) (L : Lam) (f c : Addr), LamAt RX C call X k j P L ∧ σ'[i]? = some (some (.ref f)) ∧ Imm H' f (RX.lp.lam j f c) ∧ Imm H' c (LamX.CodeO c RX.lp.q) ∧
      ∃ (ρ : Env) (μ : List Addr) (S : Store), SR X.K H' μ S ∧ RE RX.lp X.K H' μ ρ σ ∧ Out RX X.K (fun cls d H2 => ∀ σ2, wMix X.K (fun _ _ _ _ => False) (endW Q w.fine) (w.hs.map (clOf RX X.K ei)) cls d σ2 H2) H' μ (evE C call L.body ρ S) fun _ _ H2 _ => Q (.str w.fine) H2) := by
  refine ⟨fun pb sb σb Hb Q Ib h => ?_⟩
  obtain ⟨j, P, L, f, c, LA, hs, hf, hc, ho⟩ := h
  obtain ⟨oc, od, dV, kV, doc, pm, an, cdv, ct, osl, lk, hcd, hb⟩ := T.lk
  obtain ⟨q1, q2, q3, q4, q5, q6, jj, hbd⟩ := T.body
  have I := back _ _ _ _ Ib
  rw [LA.lam f c] at hf
  rw [hq] at hc
  refine wpAny_Call_Name_kw (ld_glob Ib gl T.at_ ?_ gdb)
  refine PySem.W.callWith_K (h₀ := X.base) Ib.ok.mod.kin T.kp (thn ((pa_cons (pe_var (X := inBlk X s1 H1 sc Ce cl fp) (pos := p2) (i := i) hN (.inl xl) xd xc) pa_nil).run p3 pb sb σb Hb (fun vs H2 => vs = [.ref f] ∧ H2 = Hb) Ib ⟨.ref f, hs, rfl, rfl⟩) fun us s2 hh => ?_) (by rfl) (by rfl)
  obtain ⟨vs, H2, I2, r2, ev, eH⟩ := hh
  subst ev
  rw [eH] at I2
  refine ⟨I2.kIn, ?_⟩
  cases r2 with
  | @cons _ u _ us' ru rn =>
  cases rn
  obtain rfl : u = Value.ref f := ru
  have J := back _ _ _ _ I2
  show wpAny _ _ (PySem.call (.ref ga) [.ref f]) _ _ _
  refine wpAny_call (codeAny_mono (LamX.run_ofS (CX := L2.CX X.prog X.w) (N := Ng) (ps := [a]) (us := [.ref f]) (vs := [.ref f]) (Q := Q) (E := fun _ _ _ => False) lk hcd T.sc hr J.env0 (hb s2 [.ref f] I2.kIn rfl) (.cons rfl .nil) rfl fun hr' => ?_) fun r s3 hq => ?_)
  · have ok0 : (defScope st).kind = .function := T.sc.kind
    rw [hbd]
    have hun : (X.A.deeper (envOfC gname (defScope st) s2.heap.objs.size ga cdv)).units + 16 * (k + 1) + 200 < cLine := hr'.un
    have hun2 : (X.A.deeper (envOfC gname (defScope st) s2.heap.objs.size ga cdv)).units + 100 < cLine := by omega
    have hh := hds_of (X := cxOf (L2.CX X.prog X.w) X.prog X.w X.K X.mg X.base Ng gname (defScope st) ga cdv X.A X.stack s2 Hb fun _ _ _ => False) (sg := defScope st) rfl T.sc.nd T.e1 T.e2 T.ed T.ec T.rp T.mr (show (X.A.deeper _).guards = _ from gd) hun2 T.hd
    refine ⟨_, pss_cons (ps_try_mix (tb := fun W D σZ HZ => ∃ Ech : XK, (∀ cls d σ' H', Ech cls d H' → W cls d σ' H') ∧ σZ[0]? = some (some (.ref f)) ∧ Imm HZ f (lamO (X.env.qual ++ "<lambda>") P.params P.body P.scope (cloFrom X.env.cells P.scope.names []) f c) ∧ Imm HZ c (LamX.CodeO c (X.env.qual ++ "<lambda>")) ∧
      tE RX X.K (fun c d _ H => Ech c d H) (evE C call L.body) σ HZ fun _ H' => D.nx σZ H') rfl rfl takes0 (fun W pn xe tk _ => ?_) hh) (pss_one (ps_ret pe_str)), ?_⟩
    · refine ⟨fun pZ sZ σZ HZ D IZ hZ => ?_⟩
      obtain ⟨Ech, hW, z1, z2, z3, z4⟩ := hZ
      exact (pss_one (ps_expr (pos := q3) (pe_act2 (p1 := q1) (p2 := q2) (i := 0) J LA.sc LA.bind tk hW hr' (fun A up s H hA hR => LA.walk A up s H Ech f c (hA.trans gd) hR) T.a0 T.av T.ad T.ac))).run pZ sZ σZ HZ D IZ ⟨z1, z2, z3, z4⟩
    · obtain ⟨ρ, μ, S, t, r, o⟩ := ho
      refine ⟨fun cls d H2 => ∀ σ2, wMix X.K (fun _ _ _ _ => False) (endW Q w.fine) (w.hs.map (clOf RX X.K ei)) cls d σ2 H2, fun cls d σ' H' z => z σ', ?_, hf, hc, ρ, μ, S, t, r, o.imp fun _ S' H' μ' _ _ z v _ => z⟩
      have : (L2.start Ng [V.ref f])[0]? = some (some (V.ref f)) := by
        have lt : 0 < Ng.length := (List.getElem?_eq_some_iff.mp T.a0).1
        unfold L2.start
        simp
      exact this
  · cases r with
    | error e =>
      obtain ⟨_, _, _, _, _, _, _, _, _, _, _, _, z⟩ := (show L2.CX X.prog X.w _ _ _ _ _ _ from hq)
      exact z.elim
    | ok fl =>
      cases fl with
      | ret u => exact I2.after hq
      | next => exact False.elim hq
      | brk => exact False.elim hq
      | cont => exact False.elim hq
theorem pe_wordL (T : WrdAt RX X.K X.mg w gname a nm ga Ng ei st h0 hds)
    {c0 Pt : Addr} {params : Arguments} {body : Expr} {scope : Scope} {p1 p2 p3 : Pos} (TB : LamX.TabB X.base X.mg c0 Pt) (hcode : X.env.code = .ref c0) (hdef : defaultsOf params X.env = ([], [])) (LS : LamX.LamS X.env.scope scope) (gd : X.A.guards = some [])
    (gl : X.env.scope.names.lookup gname = some .globalImplicit) (gdb : (gname == ("__debug__" : Str)) = false) (hq : RX.lp.q = X.env.qual ++ "<lambda>") :
    PE X (.Call (.Name gname p1) [.Lambda params body scope p2] [] p3) (fun σ H Q => (∃ o, H Pt = some o ∧ TabQ H RX.lp.q o) ∧ ∀ f c H', Made H H' Pt RX.lp.q → Imm H' f (lamO RX.lp.q params body scope (cloFrom X.env.cells scope.names []) f c) → Imm H' c (LamX.CodeO c RX.lp.q) →
      ∃ (k j : Nat) (P : LamR) (L : Lam) (call : Nat → List D → Store → Res R), Room (k + 2) X.A ∧ LamAt RX C call X k j P L ∧ Imm H' f (RX.lp.lam j f c) ∧
      ∃ (ρ : Env) (μ : List Addr) (S : Store), SR X.K H' μ S ∧ RE RX.lp X.K H' μ ρ σ ∧ Out RX X.K (fun cls d H2 => ∀ σ2, wMix X.K (fun _ _ _ _ => False) (endW Q w.fine) (w.hs.map (clOf RX X.K ei)) cls d σ2 H2) H' μ (evE C call L.body ρ S) fun _ _ H2 _ => Q (.str w.fine) H2) := by
  refine ⟨fun pb sb σ Hb Q Ib h => ?_⟩
  obtain ⟨ht, h⟩ := h
  obtain ⟨oc, od, dV, kV, doc, pm, an, cdv, ct, osl, lk, hcd, hb⟩ := T.lk
  obtain ⟨q1, q2, q3, q4, q5, q6, jj, hbd⟩ := T.body
  refine wpAny_Call_Name_kw (ld_glob Ib gl T.at_ ?_ gdb)
  refine PySem.W.callWith_K (h₀ := X.base) Ib.ok.mod.kin T.kp (thn ((pa_cons (pe_lam (q := RX.lp.q) (pos := p2) TB hcode hq hdef LS) pa_nil).run p3 pb sb σ Hb (fun vs H2 => ∃ f c, vs = [.ref f] ∧ Made Hb H2 Pt RX.lp.q ∧ Imm H2 f (lamO RX.lp.q params body scope (cloFrom X.env.cells scope.names []) f c) ∧ Imm H2 c (LamX.CodeO c RX.lp.q)) Ib ⟨ht, fun f c H1 md hf hc => ⟨f, c, rfl, md, hf, hc⟩⟩) fun us s2 hh => ?_) (by rfl) (by rfl)
  obtain ⟨vs, H2, I2, r2, f, c, ev, md, hf0, hc0⟩ := hh
  subst ev
  obtain ⟨k, j, P, L, call, hr, LA, hf, ho⟩ := h f c H2 md hf0 hc0
  rw [LA.lam f c] at hf
  have hc := hc0
  rw [hq] at hc
  refine ⟨I2.kIn, ?_⟩
  cases r2 with
  | @cons _ u _ us' ru rn =>
  cases rn
  obtain rfl : u = Value.ref f := ru
  have J := I2
  show wpAny _ _ (PySem.call (.ref ga) [.ref f]) _ _ _
  refine wpAny_call (codeAny_mono (LamX.run_ofS (CX := L2.CX X.prog X.w) (N := Ng) (ps := [a]) (us := [.ref f]) (vs := [.ref f]) (Q := Q) (E := fun _ _ _ => False) lk hcd T.sc hr J.env0 (hb s2 [.ref f] I2.kIn rfl) (.cons rfl .nil) rfl fun hr' => ?_) fun r s3 hq => ?_)
  · have ok0 : (defScope st).kind = .function := T.sc.kind
    rw [hbd]
    have hun : (X.A.deeper (envOfC gname (defScope st) s2.heap.objs.size ga cdv)).units + 16 * (k + 1) + 200 < cLine := hr'.un
    have hun2 : (X.A.deeper (envOfC gname (defScope st) s2.heap.objs.size ga cdv)).units + 100 < cLine := by omega
    have hh := hds_of (X := cxOf (L2.CX X.prog X.w) X.prog X.w X.K X.mg X.base Ng gname (defScope st) ga cdv X.A X.stack s2 H2 fun _ _ _ => False) (sg := defScope st) rfl T.sc.nd T.e1 T.e2 T.ed T.ec T.rp T.mr (show (X.A.deeper _).guards = _ from gd) hun2 T.hd
    refine ⟨_, pss_cons (ps_try_mix (tb := fun W D σZ HZ => ∃ Ech : XK, (∀ cls d σ' H', Ech cls d H' → W cls d σ' H') ∧ σZ[0]? = some (some (.ref f)) ∧ Imm HZ f (lamO (X.env.qual ++ "<lambda>") P.params P.body P.scope (cloFrom X.env.cells P.scope.names []) f c) ∧ Imm HZ c (LamX.CodeO c (X.env.qual ++ "<lambda>")) ∧
      tE RX X.K (fun c d _ H => Ech c d H) (evE C call L.body) σ HZ fun _ H' => D.nx σZ H') rfl rfl takes0 (fun W pn xe tk _ => ?_) hh) (pss_one (ps_ret pe_str)), ?_⟩
    · refine ⟨fun pZ sZ σZ HZ D IZ hZ => ?_⟩
      obtain ⟨Ech, hW, z1, z2, z3, z4⟩ := hZ
      exact (pss_one (ps_expr (pos := q3) (pe_act2 (p1 := q1) (p2 := q2) (i := 0) J LA.sc LA.bind tk hW hr' (fun A up s H hA hR => LA.walk A up s H Ech f c (hA.trans gd) hR) T.a0 T.av T.ad T.ac))).run pZ sZ σZ HZ D IZ ⟨z1, z2, z3, z4⟩
    · obtain ⟨ρ, μ, S, t, r, o⟩ := ho
      refine ⟨fun cls d H2 => ∀ σ2, wMix X.K (fun _ _ _ _ => False) (endW Q w.fine) (w.hs.map (clOf RX X.K ei)) cls d σ2 H2, fun cls d σ' H' z => z σ', ?_, hf, hc, ρ, μ, S, t, r, o.imp fun _ S' H' μ' _ _ z v _ => z⟩
      have : (L2.start Ng [V.ref f])[0]? = some (some (V.ref f)) := by
        have lt : 0 < Ng.length := (List.getElem?_eq_some_iff.mp T.a0).1
        unfold L2.start
        simp
      exact this
  · cases r with
    | error e =>
      obtain ⟨_, _, _, _, _, _, _, _, _, _, _, _, z⟩ := (show L2.CX X.prog X.w _ _ _ _ _ _ from hq)
      exact z.elim
    | ok fl =>
      cases fl with
      | ret u => exact I2.after hq
      | next => exact False.elim hq
      | brk => exact False.elim hq
      | cont => exact False.elim hq
end
end Q
end
section
-- SndU
set_option Elab.async false
set_option linter.all false
set_option maxRecDepth 100000
set_option maxHeartbeats 4000000
namespace Q
open PySem PySem.Spec PyProof.Rows L2
/-! ### the words of a list of lambdas -/
section
variable {RX : RXT} {C : Ctx} {call : Nat → List D → Store → Res R} {K : PySem.W.Frag} {H : Hp} {μ : List Addr} {S : Store} {ρ : Env} {σ : L2.St}
theorem lam_len : ∀ (l : List (Nat × D)) (e : Env), (l.foldl (fun ρ p => ρ.set p.1 (some p.2)) e).length = e.length
  | [], e => rfl
  | p :: l, e => by
    rw [List.foldl_cons, lam_len l]
    exact List.length_set
theorem slots_mem {ρ : Env} : ∀ (is : List Nat) (ds : List D), slotsOf ρ is = some ds → ∀ p ∈ is.zip ds, ρ[p.1]? = some (some p.2)
  | [], ds, h, p, hp => by simp at hp
  | i :: is, ds, h, p, hp => by
    unfold slotsOf at h
    rw [List.mapM_cons] at h
    obtain ⟨d, e1, h⟩ := Option.bind_eq_some_iff.mp h
    obtain ⟨r, e2, h⟩ := Option.bind_eq_some_iff.mp h
    cases h
    rw [List.zip_cons_cons] at hp
    rcases List.mem_cons.mp hp with z | z
    · subst z
      exact Option.join_eq_some_iff.mp e1
    · exact slots_mem is r e2 p z
theorem lam_re {T : Store} {L : Lam} {ds : List D} (r : RE RX.lp K H μ ρ σ) (hl : L.ns = σ.length) (hs : slotsOf ρ L.is = some ds) (low : ∀ p ∈ L.is.zip ds, lowD 0 66 p.2 = true) (ht : RX.lp.tabs.length = T.length) : RE RX.lp K H (μ.take T.length) (lamEnv L ds) σ := by
  have hm := slots_mem L.is ds hs
  have all : ∀ (i : Nat) (d : D), (lamEnv L ds)[i]? = some (some d) → ∃ p ∈ L.is.zip ds, p = (i, d) := by
    have key : ∀ (l : List (Nat × D)) (e : Env) (i : Nat) (d : D), (l.foldl (fun ρ p => ρ.set p.1 (some p.2)) e)[i]? = some (some d) → (i, d) ∈ l ∨ e[i]? = some (some d) := by
      intro l
      induction l with
      | nil => exact fun e i d z => .inr z
      | cons p l ih =>
        intro e i d z
        rw [List.foldl_cons] at z
        rcases ih _ i d z with z | z
        · exact .inl (List.mem_cons_of_mem _ z)
        · by_cases c : p.1 = i
          · subst c
            have lt := (List.getElem?_eq_some_iff.mp z).1
            rw [List.length_set] at lt
            rw [List.getElem?_set_self lt] at z
            cases z
            exact .inl List.mem_cons_self
          · rw [List.getElem?_set_ne c] at z
            exact .inr z
    intro i d z
    refine ⟨(i, d), (key _ _ i d z).elim id fun z => ?_, rfl⟩
    rw [List.getElem?_replicate] at z
    split at z <;> cases z
  refine ⟨by unfold lamEnv; rw [lam_len, List.length_replicate, hl], fun i d hcs e => ?_, fun i d hcs e => ?_, ?_⟩
  · obtain ⟨p, hp, ep⟩ := all i d e
    subst ep
    obtain ⟨v, h1, h2⟩ := r.at_ i d hcs (hm _ hp)
    exact ⟨v, h1, h2.free 66 (low _ hp)⟩
  · obtain ⟨p, hp, ep⟩ := all i d e
    subst ep
    exact r.clo i d hcs (hm _ hp)
  · obtain ⟨ν, e⟩ := r.pre
    exact ⟨[], by rw [e, ← ht, List.take_left, List.append_nil]⟩
/-- behind a lambda's call -/
theorem word_out {w : Wrd} {ei : Nat} {r0 : Res R} {y : Str} {Qb : VK} (t : SR K H μ S) (ht : tblsOk C.tbls S = true)
    (e : (match aside C S r0 with | .ok _ S => .ok (.v (.str w.fine)) S | .err x S => opt (evHs w.hs x) fun s => .ok (.v (.str s)) S | .bad => .bad : Res R) = .ok (.v (.str y)) S)
    (exm : ∀ h ∈ w.hs, ∀ c, c < RX.n → PySem.W.exmOne K (.ref (RX.tb c).1) (.ref (RX.tb h.cls).1) = some (h.cls == c)) (k : ∀ H', Step H μ H' μ → SR K H' μ S → Qb (.str y) H') :
    Out RX K (fun cls d H2 => ∀ σ2, wMix K (fun _ _ _ _ => False) (endW Qb w.fine) (w.hs.map (clOf RX K ei)) cls d σ2 H2) H (μ.take C.tbls.length) r0 fun _ _ H2 _ => Qb (.str w.fine) H2 := by
  cases r0 with
  | bad => cases e
  | ok a S' =>
    intro H' μ' st t'
    unfold aside at e
    dsimp only at e
    split at e
    case h_1 ea =>
      split at ea
      case isFalse => cases ea
      rename_i h2
      obtain ⟨b1, b2⟩ := back (nt := 0) t ht st t' h2
      cases e
      exact k H' b1 b2
    case h_2 ea =>
      split at ea
      · split at ea <;> split at ea <;> cases ea
      · cases ea
    case h_3 => cases e
  | err x S' =>
    intro H' μ' cls d st t' z
    unfold aside at e
    dsimp only at e
    by_cases h2 : tblsOk C.tbls S' = true
    · rw [if_pos h2] at e
      obtain ⟨b1, b2⟩ := back (nt := 0) t ht st t' h2
      cases ev : x.val with
      | none =>
        rw [ev] at e
        dsimp only at e
        cases eh : evHs w.hs x with
        | none => rw [eh] at e; cases e
        | some s =>
          rw [eh] at e
          cases e
          exact wmix_of (S := S) exm (fun dv hd => by rw [ev] at hd; cases hd) eh z (k H' b1 b2)
      | some dv =>
        rw [ev] at e
        dsimp only at e
        by_cases hl : lowD 0 66 dv = true
        · rw [if_pos hl] at e
          dsimp only at e
          cases eh : evHs w.hs x with
          | none => rw [eh] at e; cases e
          | some s =>
            rw [eh] at e
            cases e
            exact wmix_of (S := S) exm (fun dv' hd => by rw [ev] at hd; cases hd; exact hl) eh z (k H' b1 b2)
        · rw [if_neg hl] at e
          cases e
    · rw [if_neg h2] at e
      cases e
theorem word_cases (w : Wrd) (j : Nat) : word C call w ρ S j = .bad ∨ ∃ y, word C call w ρ S j = .ok (.v (.str y)) S := by
  unfold word
  cases C.lams[j]? with
  | none => exact .inl rfl
  | some L =>
    rw [opt_some]
    cases slotsOf ρ L.is with
    | none => exact .inl rfl
    | some ds =>
      rw [opt_some]
      split
      · cases h : aside C S (call (C.fns.length + j) ds C.tbls) with
        | bad => exact .inl rfl
        | ok a S' =>
          have : S' = S := by
            cases hr : call (C.fns.length + j) ds C.tbls with
            | bad => rw [hr] at h; cases h
            | err x S2 =>
              rw [hr] at h
              unfold aside at h
              dsimp only at h
              split at h
              · split at h
                · cases h
                · split at h <;> cases h
              · cases h
            | ok a2 S2 =>
              rw [hr] at h
              unfold aside at h
              dsimp only at h
              split at h
              · split at h <;> split at h <;> cases h <;> rfl
              · cases h
          subst this
          exact .inr ⟨_, rfl⟩
        | err x S' =>
          have : S' = S := by
            cases hr : call (C.fns.length + j) ds C.tbls with
            | bad => rw [hr] at h; cases h
            | err x2 S2 =>
              rw [hr] at h
              unfold aside at h
              dsimp only at h
              split at h
              · split at h
                · cases h; rfl
                · split at h <;> cases h <;> rfl
              · cases h
            | ok a2 S2 =>
              rw [hr] at h
              unfold aside at h
              dsimp only at h
              split at h
              · split at h <;> split at h <;> cases h
              · cases h
          subst this
          dsimp only
          cases evHs w.hs x with
          | none => exact .inl rfl
          | some y => exact .inr ⟨y, rfl⟩
      · exact .inl rfl
theorem words_cases (w : Wrd) : ∀ js : List Nat, wordsL C call w ρ S js = .bad ∨ ∃ ys : List Str, wordsL C call w ρ S js = .ok (ys.map D.str) S ∧ PySem.Paired (fun j y => word C call w ρ S j = .ok (.v (.str y)) S) js ys
  | [] => .inr ⟨[], by rw [wordsL]; rfl, .nil⟩
  | j :: r => by
    rw [wordsL]
    rcases word_cases (C := C) (call := call) (ρ := ρ) (S := S) w j with h | ⟨y, h⟩
    · rw [h]; exact .inl rfl
    · rw [h]
      dsimp only
      rcases words_cases w r with h2 | ⟨ys, h2, h3⟩
      · rw [h2]; exact .inl rfl
      · rw [h2]
        exact .inr ⟨y :: ys, rfl, .cons h h3⟩
end
section
variable {RX : RXT} {C : Ctx} {call : Nat → List D → Store → Res R} {m : Nm} {X : Cx} {W : WX}
theorem and_cv {m : Nm} {i : Nat} (h : isCv m i = true) : i < m.N.length ∧ m.sc.names.lookup (nmOf m.N i) = some .local ∧ m.cs.contains i = true ∧ (nmOf m.N i == ("__debug__" : Str)) = false ∧ (nmOf m.N i == ("__classdict__" : Str)) = false := by
  unfold isCv at h
  rw [Bool.and_eq_true, Bool.and_eq_true, Bool.and_eq_true, Bool.and_eq_true] at h
  obtain ⟨⟨⟨⟨h1, h2⟩, h3⟩, h4⟩, h5⟩ := h
  exact ⟨Nat.blt_eq.mp h1, eq_of_beq h2, h3, (Bool.not_eq_true' _).mp h4, (Bool.not_eq_true' _).mp h5⟩
theorem pget {α β : Type} {R : α → β → Prop} {as : List α} {bs : List β} (h : PySem.Paired R as bs) : ∀ (k : Nat) b, bs[k]? = some b → ∃ a, as[k]? = some a ∧ R a b := by
  induction h with
  | nil => intro k b e; simp at e
  | @cons a b as bs r _ ih =>
    intro k b' e
    cases k with
    | zero => simp at e; subst e; exact ⟨a, rfl, r⟩
    | succ k => exact ih k b' (by simpa using e)
theorem pget' {α β : Type} {R : α → β → Prop} {as : List α} {bs : List β} (h : PySem.Paired R as bs) : ∀ (k : Nat) a, as[k]? = some a → ∃ b, bs[k]? = some b ∧ R a b := by
  induction h with
  | nil => intro k b e; simp at e
  | @cons a b as bs r _ ih =>
    intro k b' e
    cases k with
    | zero => simp at e; subst e; exact ⟨b, rfl, r⟩
    | succ k => exact ih k b' (by simpa using e)
theorem strs_rd {K : PySem.W.Frag} {H : Hp} {μ : List Addr} : ∀ ys : List Str, RDs K H μ (ys.map D.str) (ys.map L2.V.str)
  | [] => .nil
  | y :: r => .cons (.str y) (strs_rd r)
/-- what an element's call asks for -/
def teWord (RX : RXT) (C : Ctx) (X : Cx) (w : Wrd) (ei x : Nat) (σ : L2.St) : TE := fun σ' H' Q => ∃ (k : Nat) (call2 : Nat → List D → Store → Res R), Room (k + 2) X.A ∧ ∃ (j : Nat) (P : LamR) (L : Lam) (f c : Addr), LamAt RX C call2 X k j P L ∧ σ'[x]? = some (some (.ref f)) ∧ Imm H' f (RX.lp.lam j f c) ∧ Imm H' c (LamX.CodeO c RX.lp.q) ∧
      ∃ (ρ : Env) (μ : List Addr) (S : Store), SR X.K H' μ S ∧ RE RX.lp X.K H' μ ρ σ ∧ Out RX X.K (fun cls d H2 => ∀ σ2, wMix X.K (fun _ _ _ _ => False) (endW Q w.fine) (w.hs.map (clOf RX X.K ei)) cls d σ2 H2) H' μ (evE C call2 L.body ρ S) fun _ _ H2 _ => Q (.str w.fine) H2
structure SiteW (RX : RXT) (C : Ctx) (m : Nm) (X : Cx) : Prop where
  sc : X.env.scope = m.sc
  nN : X.N = m.N
  nd : m.N.Nodup
  cs : RX.lp.cs = m.cs
  tb : RX.lp.tabs.length = C.tbls.length
  calm : X.calm = true
  gd : X.A.guards = some []
theorem words_ok (st : SiteW RX C m X) {wi i x kk : Nat} {ps : PL} (h : kE m (.words wi i x kk) = true)
    (hW : ∀ w, C.wrds[wi]? = some w → ∃ a nm ga Ng ei stm h0 hds, WrdAt RX X.K X.mg w (nmOf m.wr wi) a nm ga Ng ei stm h0 hds)
    (hL : ∀ j, RX.lp.dom j → ∃ P L, C.lams[j]? = some L ∧ L.ns = m.N.length ∧ ∀ ds S, call (C.fns.length + j) ds S = .bad ∨ ∃ k call2, Room (k + 2) X.A ∧ LamAt RX C call2 X k j P L ∧ call (C.fns.length + j) ds S = evE C call2 L.body (lamEnv L ds) S)
    (hq : RX.lp.q = X.env.qual ++ "<lambda>") : PE X (pE m (.words wi i x kk) ps).1 (tE RX X.K W (evE C call (.words wi i x kk))) := by
  rw [kE] at h
  simp only [Bool.and_eq_true] at h
  obtain ⟨⟨⟨⟨⟨k0, k1⟩, k2⟩, k3⟩, k4⟩, k5⟩ := h
  obtain ⟨i1, i2, i3, i4, i5⟩ := and_cv k3
  obtain ⟨x1, x2, x3, x4, x5⟩ := and_cv k4
  have hsc : X.env.scope = m.sc := st.sc
  have nI : X.N[i]? = some (nmOf m.N i) := by rw [st.nN]; exact nm_at i1
  have nX : X.N[x]? = some (nmOf m.N x) := by rw [st.nN]; exact nm_at x1
  have lx : (relS (m.scp kk) X.env.scope).names.lookup (nmOf m.N x) = some .local := by rw [hsc]; exact x2
  unfold isG at k2
  rw [Bool.and_eq_true, Bool.and_eq_true] at k2
  obtain ⟨⟨g1, g2⟩, g3⟩ := k2
  have lg : (relS (m.scp kk) X.env.scope).names.lookup (nmOf m.wr wi) = some .globalImplicit := by rw [hsc]; exact eq_of_beq g1
  refine ⟨fun pins s σ H Q I hq0 => ?_⟩
  obtain ⟨ρ, μ, S, t, r, z⟩ := hq0
  rw [evE] at z
  obtain ⟨w, ew, z⟩ := z.opt
  obtain ⟨a, nm, ga, Ng, ei, stm, h0, hds, T⟩ := hW w ew
  split at z
  case h_2 => exact z.elim
  rename_i js ej
  rcases words_cases (C := C) (call := call) (ρ := ρ) (S := S) w js with zb | ⟨ys, e1, e2⟩
  · rw [zb] at z; exact z.elim
  rw [e1] at z
  obtain ⟨v, hσ, hdom, la, fs, ev, himm, hpair⟩ := r.clo i _ (by rw [st.cs]; exact i3) ej
  subst ev
  have lenσ : x < σ.length := by rw [I.len]; exact (List.getElem?_eq_some_iff.mp nX).1
  rw [pE]
  refine lc_back (own := [(nmOf m.N x, x)]) (wi := iList X.K (tVar i)) (g := gName x) (te := teWord RX C X w ei x σ)
    st.calm (by rw [st.nN]; exact st.nd) I (pi_list (pe_var nI (by unfold Vis; rw [hsc]; exact .inl i2) i4 i5)) (blkOk_by (by rw [st.nN, hsc]; exact k5))
    (fun s1 H1 Ce cl fp => pg_name (X := inBlk X s1 H1 (m.scp kk) Ce cl fp) (by show X.N.Nodup; rw [st.nN]; exact st.nd) nX (.inl lx) (.inr lx))
    (fun s1 H1 Ce cl fp back => ⟨fun pb sb σb Hb Q2 Ib ⟨k, call2, hr, hh⟩ => (pe_word T back hr st.gd nX lx x4 x5 lg (by simpa using g2) hq).run pb sb σb Hb Q2 Ib hh⟩) (fun _ => rfl) ?_
  refine ⟨.ref la, hσ, la, rfl, ⟨_, .inl (imm_rd himm)⟩, fun D hD => ?_⟩
  have nD : D ∉ μ := not_in t hD
  have nlen : ys.length = fs.length := (e2.length).symm.trans hpair.length
  refine lc_list (K := X.K) (a := la) (xs := fs.map L2.V.ref) (g := gName x) (tt := tYes) (te := teWord RX C X w ei x σ) (vs := [x]) (σ := σ) (H1 := H) (D := D) (Qd := fun H' => Q (.ref D) H') (fun k H' => ∃ acc, H' D = some (.lst acc) ∧ acc = (ys.take k).map L2.V.str ∧ StepD (some D) H μ H' μ ∧ SR X.K H' μ S) ⟨[], upd_same, rfl, StepD.grow (grow_upd hD), t.new hD⟩ (fun k H' _ ⟨acc, _, _, s', _⟩ => .inl (imm_rd (s'.tups _ _ himm))) (fun k xv H' hx ⟨acc, hd, ea, s', t'⟩ => ?_) (fun H' ⟨acc, hd, ea, s', t'⟩ => ?_)
  · rw [List.getElem?_map] at hx
    obtain ⟨f, ef, exv⟩ := Option.map_eq_some_iff.mp hx
    subst exv
    obtain ⟨j, ejk, c, hf1, hf2⟩ := pget hpair k f ef
    obtain ⟨y, ey, hw⟩ := pget' e2 k j ejk
    refine ⟨?_, ?_⟩
    · show ((σ.set x none).set x (some (.ref f))).set x none = σ.set x none
      rw [List.set_set, List.set_set]
    · unfold tYes
      dsimp only
      try rw [if_pos rfl]
      obtain ⟨P, L, eL, hns, alt⟩ := hL j (hdom j (List.mem_of_getElem? ejk))
      unfold word at hw
      rw [eL, opt_some] at hw
      cases hsl : slotsOf ρ L.is with
      | none => rw [hsl] at hw; cases hw
      | some ds' =>
        rw [hsl, opt_some] at hw
        split at hw
        case isFalse => cases hw
        rename_i hcond
        rw [Bool.and_eq_true] at hcond
        obtain ⟨hlow, htb⟩ := hcond
        rcases alt ds' C.tbls with bad | ⟨k2, call2, hr, LA, ec⟩
        · rw [bad] at hw; cases hw
        · rw [ec] at hw
          have hset : ((L2.wipe σ [x]).set x (some (L2.V.ref f)))[x]? = some (some (.ref f)) := List.getElem?_set_self (by rw [L2.wipe_length]; exact lenσ)
          have hre := lam_re (T := C.tbls) (r.step s') (by rw [hns, ← st.nN]; exact I.len.symm) hsl (fun p hp => List.all_eq_true.mp hlow _ (List.of_mem_zip hp).2) st.tb
          refine ⟨k2, call2, hr, j, P, L, f, c, LA, hset, s'.tups _ _ hf1, s'.tups _ _ hf2, _, _, _, t'.part htb, hre, word_out t' htb hw T.exm fun H4 s4 t4 => ?_⟩
          have hd4 : H4 D = some (.lst acc) := s4.keep D _ hd nD
          refine ⟨acc, hd4, ?_, acc ++ [.str y], upd_same, ?_, (s'.trans s4.weak).trans (StepD.put hd4), t4.put hd4 nD⟩
          · have big : (fs.map L2.V.ref).length ≤ sizeLine := ((imm_rd himm).ok I.hok).1
            have lt : k < fs.length := (List.getElem?_eq_some_iff.mp ef).1
            rw [List.length_map] at big
            rw [ea, List.length_map, List.length_take]
            omega
          · rw [ea, List.take_succ, ey]
            simp
  · have ey : (ys.take (fs.map L2.V.ref).length) = ys := by rw [List.length_map, ← nlen]; exact List.take_length
    rw [ey] at ea
    exact z H' μ (s'.drop fun d e => by cases e; exact hD) t' (.ref D) ⟨D, acc, rfl, hD, hd, nD, by rw [ea]; exact strs_rd ys⟩
/-- the word of a lambda made on the spot -/
theorem lwd_ok (st : SiteW RX C m X) (ls : LamSite RX C m X) {wi j : Nat} {is : List Nat} {ps : PL} (h : kE m (.lwd wi j is) = true)
    (hW : ∀ w, C.wrds[wi]? = some w → ∃ a nm ga Ng ei stm h0 hds, WrdAt RX X.K X.mg w (nmOf m.wr wi) a nm ga Ng ei stm h0 hds)
    (hL : ∀ j, RX.lp.dom j → ∃ P L, C.lams[j]? = some L ∧ L.ns = m.N.length ∧ ∀ ds S, call (C.fns.length + j) ds S = .bad ∨ ∃ k call2, Room (k + 2) X.A ∧ LamAt RX C call2 X k j P L ∧ call (C.fns.length + j) ds S = evE C call2 L.body (lamEnv L ds) S)
    : PE X (pE m (.lwd wi j is) ps).1 (tE RX X.K W (evE C call (.lwd wi j is))) := by
  rw [kE] at h
  simp only [Bool.and_eq_true] at h
  obtain ⟨⟨⟨k0, k1⟩, k2⟩, k3, k4⟩ := h
  have hsc : X.env.scope = m.sc := st.sc
  unfold isG at k2
  rw [Bool.and_eq_true, Bool.and_eq_true] at k2
  obtain ⟨⟨g1, g2⟩, g3⟩ := k2
  have lg : X.env.scope.names.lookup (nmOf m.wr wi) = some .globalImplicit := by rw [hsc]; exact eq_of_beq g1
  obtain ⟨Lr, eL⟩ := Option.isSome_iff_exists.mp k4
  obtain ⟨l1, l2, l3⟩ := ls.lam j Lr eL
  obtain ⟨c0, Pt, ti, t1, t2, t3, t4⟩ := ls.tab
  have e0 : lamExprs m [j] (ps.drop 2) = [.Lambda Lr.params Lr.body Lr.scope (hd (ps.drop 2))] := by
    show [match m.lam[j - m.lb]? with
        | some L => Expr.Lambda L.params L.body L.scope (hd (ps.drop 2))
        | none => .Constant .none 0 (hd (ps.drop 2))] = _
    rw [eL]
  rw [pE, e0]
  cases ew : C.wrds[wi]? with
  | none =>
    refine ⟨fun pins s σ H Q I hq0 => ?_⟩
    obtain ⟨ρ, μ, S, t, r, z⟩ := hq0
    rw [evE, ew] at z
    exact z.elim
  | some w =>
  obtain ⟨a, nm, ga, Ng, ei, stm, h0, hds, T⟩ := hW w ew
  refine ⟨fun pins s σ H Q I hq0 => ?_⟩
  obtain ⟨ρ, μ, S, t, r, z⟩ := hq0
  rw [evE, ew, opt_some] at z
  rcases word_cases (C := C) (call := call) (ρ := ρ) (S := S) w j with zb | ⟨y, hw⟩
  · rw [zb] at z; exact z.elim
  have hw0 := hw
  rw [hw] at z
  unfold word at hw
  obtain ⟨P, L, eL2, hns, alt⟩ := hL j (ls.dom j (Nat.ble_eq.mp k3) k4)
  rw [eL2, opt_some] at hw
  cases hsl : slotsOf ρ L.is with
  | none => rw [hsl] at hw; cases hw
  | some ds' =>
  rw [hsl, opt_some] at hw
  split at hw
  case isFalse => cases hw
  rename_i hcond
  rw [Bool.and_eq_true] at hcond
  obtain ⟨hlow, htb⟩ := hcond
  rcases alt ds' C.tbls with bad | ⟨k2, call2, hr, LA, ec⟩
  · rw [bad] at hw; cases hw
  rw [ec] at hw
  obtain ⟨rest, eS, _⟩ := tblsOk_app htb
  have hS : S[ti]? = some (.tbl RX.lp.q) := by
    rw [eS, List.getElem?_append_left (List.getElem?_eq_some_iff.mp t4).1]
    exact t4
  have hm : μ[ti]? = some Pt := by
    obtain ⟨ν, e⟩ := r.pre
    rw [e, List.getElem?_append_left (List.getElem?_eq_some_iff.mp t3).1]
    exact t3
  refine (pe_wordL (C := C) (p1 := hd ps.tail) (p2 := hd (ps.drop 2)) (p3 := hd ps) T t2 t1 l2 l3 st.gd lg (by simpa using g2) ls.q).run pins s σ H Q I ⟨?_, fun f c H1 md hf hc => ?_⟩
  · obtain ⟨o, q1, q2⟩ := t.cell ti _ Pt hS hm
    exact ⟨o, q1, q2⟩
  · obtain ⟨s1, st1⟩ := sr_made t md hS hm
    have hre := lam_re (T := C.tbls) (r.step st1) (by rw [hns, ← st.nN]; exact I.len.symm) hsl (fun p hp => List.all_eq_true.mp hlow _ (List.of_mem_zip hp).2) st.tb
    refine ⟨k2, j, P, L, call2, hr, LA, by rw [l1]; exact hf, _, _, _, s1.part htb, hre, word_out s1 htb hw T.exm fun H4 s4 t4 => ?_⟩
    exact z H4 μ (st1.trans s4) t4 (.str y) (.str y)
end
end Q
end
section
-- Snd18
set_option Elab.async false
set_option linter.all false
set_option maxRecDepth 100000
set_option maxHeartbeats 4000000
namespace Q
open PySem PySem.Spec PyProof.Rows L2

/-! ### calls -/
section
variable {K : PySem.W.Frag} {H H0 : Hp} {μ ν : List Addr} {S : Store}
mutual
theorem RD.low : ∀ {d : D} {v : L2.V} (f : Nat), RD K H (μ ++ ν) d v → lowD μ.length f d = true → RD K H μ d v
  | _, _, 0, _, h => by cases h
  | _, _, f + 1, .non, _ => .non
  | _, _, f + 1, .bl b, _ => .bl b
  | _, _, f + 1, .int i, _ => .int i
  | _, _, f + 1, .str x, _ => .str x
  | _, _, f + 1, .tup h r, e => .tup h (RDs.low f r e)
  | _, _, f + 1, .fl h r, e => .fl h (RDs.low f r e)
  | _, _, f + 1, .fz h r, e => .fz h (RDs.low f r e)
  | _, _, f + 1, .fd h, _ => .fd h
  | _, _, f + 1, .ref h, e => .ref (by
    rw [List.getElem?_append_left (Nat.blt_eq.mp e)] at h
    exact h)
theorem RDs.low : ∀ {d : List D} {v : List L2.V} (f : Nat), RDs K H (μ ++ ν) d v → d.all (lowD μ.length f) = true → RDs K H μ d v
  | _, _, f, .nil, _ => .nil
  | _, _, f, .cons r t, e => by
    rw [List.all_cons] at e
    exact .cons (RD.low f r (and2 e).1) (RDs.low f t (and2 e).2)
end
theorem CR.low {c : Cell} {o : HO} (h : CR K H (μ ++ ν) c o) (e : lowC μ.length c = true) : CR K H μ c o := by
  cases c with
  | lst ds => obtain ⟨vs, h1, h2⟩ := h; exact ⟨vs, h1, RDs.low 66 h2 e⟩
  | dct k => exact h
  | tbl q => exact h
  | ins nm fs =>
    obtain ⟨Ca, dx, gs, h0, h1, h2⟩ := h
    refine ⟨Ca, dx, gs, h0, h1, ?_⟩
    replace e : (fs.all fun p => lowD μ.length 66 p.2) = true := e
    clear h0 h1
    induction h2 with
    | nil => exact .nil
    | cons r _ ih =>
      rw [List.all_cons] at e
      exact .cons ⟨r.1, RD.low 66 r.2 (and2 e).1⟩ (ih (and2 e).2)
theorem SR.low (t : SR K H (μ ++ ν) S) (h : (S.take μ.length).all (lowC μ.length) = true) : SR K H μ (S.take μ.length) := by
  refine ⟨?_, (List.nodup_append.mp t.nd).1, fun n c a e1 e2 => ?_⟩
  · have := t.len
    rw [List.length_append] at this
    rw [List.length_take]
    omega
  · have hn : n < μ.length := (List.getElem?_eq_some_iff.mp e2).1
    rw [List.getElem?_take_of_lt hn] at e1
    obtain ⟨o, h1, h2⟩ := t.cell n c a e1 (by rw [List.getElem?_append_left hn]; exact e2)
    refine ⟨o, h1, h2.low (List.all_eq_true.mp h c ?_)⟩
    exact List.mem_of_getElem? (i := n) (by rw [List.getElem?_take_of_lt hn]; exact e1)
/-- what is dropped behind a call -/
theorem fin_of {RX : RXT} {E : XK} {S0 S1 : Store} {H1 : Hp} {μ1 : List Addr} {r : R} {v : L2.V} {p : R → Store → Hp → List Addr → Prop} (t0 : SR K H μ S0) (st : Step H μ H1 μ1) (t1 : SR K H1 μ1 S1) (hr : RR K H H1 μ1 r v)
    (h : Out RX K E H μ (fin S0.length r S1) p) : ∃ r' S' μ', Step H μ H1 μ' ∧ SR K H1 μ' S' ∧ RR K H H1 μ' r' v ∧ p r' S' H1 μ' := by
  have same : Out RX K E H μ (Res.ok r S1) p → ∃ r' S' μ', Step H μ H1 μ' ∧ SR K H1 μ' S' ∧ RR K H H1 μ' r' v ∧ p r' S' H1 μ' := fun h => ⟨r, S1, μ1, st, t1, hr, h H1 μ1 st t1⟩
  obtain ⟨ν, eν, hν⟩ := st.pre
  subst eν
  rw [← t0.len] at h
  have sd : Step H μ H1 μ := StepD.mk' st.keep st.tups st.live ⟨[], by simp, by simp⟩
  unfold fin at h
  split at h
  · exact same h
  · split at h
    · rename_i hall
      have tl := t1.low hall
      have drop : ∀ r', Out RX K E H μ (Res.ok r' (S1.take μ.length)) p → RR K H H1 μ r' v → ∃ r' S' μ', Step H μ H1 μ' ∧ SR K H1 μ' S' ∧ RR K H H1 μ' r' v ∧ p r' S' H1 μ' := fun r' h hr => ⟨r', _, μ, sd, tl, hr, h H1 μ sd tl⟩
      split at h
      · rename_i ds
        split at h
        · rename_i hl
          obtain ⟨a, vs, e, h0, h1, h2, h3⟩ := hr
          exact drop _ h ⟨a, vs, e, h0, h1, fun z => h2 (List.mem_append_left _ z), RDs.low 66 h3 hl⟩
        · exact same h
      · rename_i m
        split at h
        · rename_i hl
          exact drop _ h (RD.low 1 (d := .ref m) hr hl)
        · rename_i hnl
          split at h
          · rename_i ds hs
            split at h
            · rename_i hl
              cases (show RD K H1 (μ ++ ν) (.ref m) v from hr) with
              | @ref _ a hm =>
                obtain ⟨o, h1, vs, h2, h3⟩ := t1.cell m _ _ hs hm
                subst h2
                have hge : μ.length ≤ m := by
                  have : ¬ m < μ.length := fun z => hnl (Nat.blt_eq.mpr z)
                  omega
                have ha : a ∈ ν := by
                  rw [List.getElem?_append_right hge] at hm
                  exact List.mem_of_getElem? hm
                refine drop _ h ⟨a, vs, rfl, hν a ha, h1, fun z => ?_, RDs.low 66 h3 hl⟩
                exact (List.nodup_append.mp t1.nd).2.2 a z a ha rfl
            · exact same h
          · exact same h
      · rename_i d _
        split at h
        · rename_i hl
          exact drop _ h (RD.low 66 (show RD K H1 (μ ++ ν) d v from hr) hl)
        · exact same h
    · exact same h
end
/-! the lambdas of a text, in their order -/
mutual
def lamsE : Nat → Expr → List LamR
  | 0, _ => []
  | n + 1, e => match e with
    | .Lambda a b sc _ => [⟨a, b, sc⟩]
    | .Tuple es _ _ => lamsEs n es
    | .List es _ => lamsEs n es
    | .BinOp a _ b _ => lamsE n a ++ lamsE n b
    | .UnaryOp _ a _ => lamsE n a
    | .Compare a _ bs _ => lamsE n a ++ lamsEs n bs
    | .BoolOp _ es _ => lamsEs n es
    | .IfExp c a b _ => lamsE n c ++ (lamsE n a ++ lamsE n b)
    | .Call _ es _ _ => lamsEs n es
    | _ => []
def lamsEs : Nat → List Expr → List LamR
  | 0, _ => []
  | n + 1, es => match es with
    | [] => []
    | e :: r => lamsE n e ++ lamsEs n r
end
mutual
def lamsS : Nat → Stmt → List LamR
  | 0, _ => []
  | n + 1, s => match s with
    | .Assign _ v _ => lamsE 60 v
    | .Expr e _ => lamsE 60 e
    | .Return (some e) _ => lamsE 60 e
    | .If c a b _ => lamsE 60 c ++ (lamsSs n a ++ lamsSs n b)
    | .While _ b _ _ => lamsSs n b
    | .For _ _ b _ _ => lamsSs n b
    | _ => []
def lamsSs : Nat → List Stmt → List LamR
  | 0, _ => []
  | n + 1, l => match l with
    | [] => []
    | s :: r => lamsS n s ++ lamsSs n r
end
/-- a def of the text: its own name, the name that it is called by -/
structure FD where
  name : Str
  als : Str
  fn : Fn
  N : List Str
  cs : List Nat
  lb : Nat
  /-- which table is its own -/
  tab : Nat
structure Tab where
  fds : List FD
  gl : List (Str × D)
  fuel : Nat
  lams : List Lam
  wrds : List (Str × Wrd)
  tbls : List Str
  excs : List (Str × Bool)
  exi : List Nat
def Tab.ctx (T : Tab) : Ctx := ⟨T.fds.map (·.fn), T.gl.map (·.2), T.fuel, T.lams, T.wrds.map (·.2), T.tbls.map Cell.tbl, T.excs.map (·.2), [], T.exi⟩
def FD.sig (d : FD) : Str × Nat × Nat := (d.als, d.fn.np, d.fn.df.length)
def FD.q (d : FD) : Str := d.name ++ ".<locals>." ++ "<lambda>"
def Tab.nm (T : Tab) (d : FD) (st : Stmt) : Nm := ⟨d.N, defScope st, fun _ => true, T.fds.map FD.sig, T.gl.map (·.1), hSs 60 (defBody st), (xSs 200 (defBody st)).filterMap Xi.scp, d.cs, d.lb, lamsSs 200 (defBody st), T.wrds.map (·.1), T.excs.map (·.1), T.excs.map (·.2), true⟩
/-- the names within a lambda -/
def Nm.lam1 (m : Nm) (P : LamR) : Nm := { m with sc := P.scope, fs := fun _ => false, top := false, hs := [], scs := (xE 60 P.body).filterMap Xi.scp }
def noArgs : Arguments := ⟨[], [], none, [], [], none, []⟩
/-- what must be looked at of a lambda -/
structure LOk (T : Tab) (d : FD) (st : Stmt) (j : Nat) (P : LamR) : Prop where
  L : ∃ L, T.lams[j]? = some L ∧ L.ns = d.N.length ∧ (pE ((T.nm d st).lam1 P) L.body ((xE 60 P.body).filterMap Xi.pos)).1 = P.body ∧ kE ((T.nm d st).lam1 P) L.body = true
  args : P.params = noArgs
  sc : LamX.lamSB (defScope st) P.scope = true
/-- what must be looked at of a def -/
structure FOk (T : Tab) (d : FD) (st : Stmt) : Prop where
  body : (pSs (T.nm d st) d.fn.body ((xSs 200 (defBody st)).filterMap Xi.pos)).1 = defBody st
  ok : kSs (T.nm d st) d.fn.body ((xSs 200 (defBody st)).filterMap Xi.pos) = true
  sc : FnScope d.N (d.N.take d.fn.np) (defScope st)
  ns : d.fn.ns = d.N.length
  np : d.fn.np ≤ d.N.length
  lam : ∀ i P, (lamsSs 200 (defBody st))[i]? = some P → LOk T d st (d.lb + i) P ∧ T.tbls[d.tab]? = some d.q
  cs : ∀ i, i < d.fn.np → d.cs.contains i = false
/-- .. and of the written part -/
structure FAt (T : Tab) (K : PySem.W.Frag) (mg : Str → Option Value) (cs : List (Addr × Addr)) (d : FD) (st : Stmt) (fa : Addr) (fd : FuncData) : Prop where
  ex : ∃ (oc : Value) (od : Option Addr) (dV kV doc pm : Value) (an : Option Addr) (cdv ct : Value) (osl : Array (Option Value)),
    fd = PySem.W.fnOf d.name d.name (defArgs st) (defBody st) (defScope st) dV kV doc pm an cdv ct ∧ K.lookup fa = some ⟨oc, od, .func fd, osl⟩ ∧ PySem.W.codeIn K cdv d.name = true ∧ (d.tab < T.tbls.length → ∃ p, cs[d.tab]? = some p ∧ cdv = .ref p.1)
  mg : mg d.als = some (.ref fa)
  kp : PySem.W.keepIn K (.ref fa) = true
  bd : ∀ n, n ≤ d.fn.np → d.fn.np ≤ n + d.fn.df.length → ∃ us dvs, Binds K fd (d.N.take d.fn.np) us ∧ Vals dvs us ∧ ∀ H μ, RDs K H μ (d.fn.df.drop (d.fn.df.length - (d.fn.np - n))) dvs
/-- errors' classes and fields -/
def RXb (n : Nat) (tb : Nat → Addr × Str) (cs : List (Addr × Addr)) : RXT := ⟨n, tb, ⟨[], fun _ _ _ => .lst [], fun _ => False, Str.empty, fun _ _ => False, cs.map (·.2)⟩⟩
structure TOk (P : Program) (T : Tab) (K : PySem.W.Frag) (mg : Str → Option Value) (st : Nat → Stmt) (tb : Nat → Addr × Str) (cs : List (Addr × Addr)) : Prop where
  fn : ∀ (f : Nat) d, T.fds[f]? = some d → FOk T d (st f) ∧ ∃ fa fd, FAt T K mg cs d (st f) fa fd
  gl : ∀ (j : Nat) x d, T.gl[j]? = some (x, d) → ∃ v u, mg x = some u ∧ RelV v u ∧ ∀ H μ, RD K H μ d v
  bt : ∀ x ∈ bnames, mg x = none
  er : ∀ (c : Nat) x k, T.excs[c]? = some (x, k) → mg x = some (.ref (tb c).1) ∧ ErrK P K mg (tb c).1 (tb c).2 k
  wd : ∀ (wi : Nat) x w, T.wrds[wi]? = some (x, w) → ∃ a nm ga Ng ei stm h0 hds, WrdAt (RXb T.excs.length tb cs) K mg w x a nm ga Ng ei stm h0 hds
  len : cs.length = T.tbls.length
  xi : ∀ c, ((tb c).2 == ("limit" : Str)) = true → T.exi.contains c = true
section
variable {P : Program} {w : World} {K : PySem.W.Frag} {mg : Str → Option Value} {base : Heap} {RX : RXT} {T : Tab} {st : Nat → Stmt} {tb : Nat → Addr × Str} {cs : List (Addr × Addr)}
theorem fns_at {f : Nat} {d : FD} (hd : T.fds[f]? = some d) : T.ctx.fns[f]? = some d.fn := by
  show (T.fds.map (·.fn))[f]? = _
  rw [List.getElem?_map, hd]
  rfl
theorem spC_len {f : Nat} {d : FD} (hd : T.fds[f]? = some d) {n : Nat} {vs : List L2.V} {H : Hp} {Q : VK} {E : XK} (h : spC RX K (evCall T.ctx n) f vs H Q E) : vs.length = d.fn.np := by
  obtain ⟨ds, μ, S, t, r, _, h⟩ := h
  cases n with
  | zero => exact h.elim
  | succ n =>
    rw [evCall, fns_at hd] at h
    dsimp only at h
    split at h
    · rename_i hl
      rw [← r.length]
      exact eq_of_beq hl
    · exact h.elim
theorem start_re {ds : List D} {vs : List L2.V} {H : Hp} {μ : List Addr} {F : Fn} {N : List Str} {lp : LP} (r : RDs K H μ ds vs) (h : F.ns = N.length) (hp : ∃ ν, μ = lp.tabs ++ ν) (hc : ∀ i, i < ds.length → lp.cs.contains i = false) : RE lp K H μ (Q.start F ds) (L2.start N vs) := by
  unfold Q.start L2.start
  have hl := r.length
  have key : ∀ (i : Nat) d, (ds.map some ++ List.replicate (F.ns - ds.length) none)[i]? = some (some d) → i < ds.length ∧ ds[i]? = some d := fun i d e => by
    by_cases hi : i < ds.length
    · rw [List.getElem?_append_left (by simpa using hi), List.getElem?_map] at e
      cases e2 : ds[i]? with
      | none => rw [e2] at e; cases e
      | some d' => rw [e2] at e; cases e; exact ⟨hi, rfl⟩
    · rw [List.getElem?_append_right (by simpa using hi), List.getElem?_replicate] at e
      split at e <;> cases e
  refine ⟨by simp [hl, h], fun i d _ e => ?_, fun i d c e => ?_, hp⟩
  · obtain ⟨hi, e2⟩ := key i d e
    obtain ⟨v, h1, h2⟩ := r.get e2
    refine ⟨v, ?_, h2⟩
    rw [List.getElem?_append_left (by rw [List.length_map, ← hl]; exact hi), List.getElem?_map, h1]
    rfl
  · rw [hc i (key i d e).1] at c
    cases c
/-- a lambda's call, two levels down -/
theorem lam_call {n j : Nat} {L : Lam} (hL : T.lams[j]? = some L) (ds : List D) (S : Store) : evCall T.ctx n (T.ctx.fns.length + j) ds S = .bad ∨ ∃ k, n = k + 2 ∧ evCall T.ctx n (T.ctx.fns.length + j) ds S = evE T.ctx (evCall T.ctx k) L.body (lamEnv L ds) S := by
  have lt : j < T.ctx.lams.length := (List.getElem?_eq_some_iff.mp hL).1
  match n with
  | 0 => exact .inl rfl
  | 1 =>
    refine .inl ?_
    rw [evCall, List.getElem?_eq_none (Nat.le_add_right _ _)]
    dsimp only
    rw [if_pos (Nat.blt_eq.mpr (by omega))]
    rfl
  | k + 2 =>
    rw [evCall, List.getElem?_eq_none (Nat.le_add_right _ _)]
    dsimp only
    rw [if_pos (Nat.blt_eq.mpr (by omega)), evCall, List.getElem?_eq_none (by omega)]
    dsimp only
    rw [if_neg (by rw [Nat.blt_eq]; omega)]
    have e : T.ctx.fns.length + j + T.ctx.lams.length - (T.ctx.fns.length + T.ctx.lams.length) = j := by omega
    rw [e, show T.ctx.lams[j]? = some L from hL, opt_some]
    split
    · exact .inr ⟨k, rfl, rfl⟩
    · exact .inl rfl
end
end Q
end
section
-- SndX
set_option Elab.async false
set_option linter.all false
set_option maxRecDepth 100000
set_option maxHeartbeats 4000000
namespace Q
open PySem PySem.Spec PyProof.Rows L2
section
variable {P : Program} {w : World} {K : PySem.W.Frag} {mg : Str → Option Value} {base : Heap} {T : Tab} {st : Nat → Stmt} {tb : Nat → Addr × Str} {cs : List (Addr × Addr)}
theorem gl_at (h : TOk P T K mg st tb cs) (j : Nat) (dd : D) (e : T.ctx.glb[j]? = some dd) : ∃ v u, mg (nmOf (T.gl.map (·.1)) j) = some u ∧ RelV v u ∧ ∀ H μ, RD K H μ dd v := by
  have e : (T.gl.map (·.2))[j]? = some dd := e
  rw [List.getElem?_map] at e
  cases e2 : T.gl[j]? with
  | none => rw [e2] at e; cases e
  | some q =>
    rw [e2] at e
    cases e
    have e3 : nmOf (T.gl.map (·.1)) j = q.1 := by
      unfold nmOf
      rw [List.getD_eq_getElem?_getD, List.getElem?_map, e2]
      rfl
    rw [e3]
    exact h.gl j q.1 q.2 e2
/-- the RX of an activation -/
def RXa (mg : Str → Option Value) (T : Tab) (tb : Nat → Addr × Str) (cs : List (Addr × Addr)) (d : FD) (st : Stmt) (env : PySem.Env) : RXT := ⟨T.excs.length, tb, ⟨d.cs, fun j f c => match (lamsSs 200 (defBody st))[j - d.lb]? with
    | some P => lamO (env.qual ++ "<lambda>") P.params P.body P.scope (cloFrom env.cells P.scope.names []) f c
    | none => .lst [], fun j => d.lb ≤ j ∧ ((lamsSs 200 (defBody st))[j - d.lb]?).isSome = true, env.qual ++ "<lambda>", fun f v => ∃ x np nd a, (T.fds.map FD.sig)[f]? = some (x, np, nd) ∧ v = .ref a ∧ mg x = some (.ref a), cs.map (·.2)⟩⟩
/-- what callers are told of the defs -/
def AllFn (P : Program) (w : World) (K : PySem.W.Frag) (mg : Str → Option Value) (base : Heap) (T : Tab) (st : Nat → Stmt) (tb : Nat → Addr × Str) (cs : List (Addr × Addr)) (n : Nat) : Prop :=
  ∀ (f : Nat) d, T.fds[f]? = some d → ∀ fa fd, FAt T K mg cs d (st f) fa fd → FnG P w K mg base (L2.CX P w) (n + 1) fa fd (d.N.take d.fn.np) (spC (RXb T.excs.length tb cs) K (evCall T.ctx n) f)
theorem fn_at (h : TOk P T K mg st tb cs) {n : Nat} (all : AllFn P w K mg base T st tb cs n) {A : Around} (hr : Room (n + 1) A) (g : Nat) (x : Str) (np nd : Nat) (e : (T.fds.map FD.sig)[g]? = some (x, np, nd)) :
    ∃ F fa fd ps k, T.ctx.fns[g]? = some F ∧ F.np = np ∧ F.df.length = nd ∧ mg x = some (.ref fa) ∧ PySem.W.keepIn K (.ref fa) = true ∧
    FnG P w K mg base (L2.CX P w) k fa fd ps (spC (RXb T.excs.length tb cs) K (evCall T.ctx n) g) ∧ Room k A ∧
    ∀ n, n ≤ np → np ≤ n + nd → ∃ us dvs, Binds K fd ps us ∧ Vals dvs us ∧ ∀ H μ, RDs K H μ (F.df.drop (F.df.length - (F.np - n))) dvs := by
  rw [List.getElem?_map] at e
  cases e2 : T.fds[g]? with
  | none => rw [e2] at e; cases e
  | some d' =>
    rw [e2] at e
    cases e
    obtain ⟨-, fa', fd', F'⟩ := h.fn g d' e2
    exact ⟨d'.fn, fa', fd', _, n + 1, fns_at e2, rfl, rfl, F'.mg, F'.kp, all g d' e2 fa' fd' F', hr, F'.bd⟩
/-- a lambda's body is walked -/
theorem lam_walk (h : TOk P T K mg st tb cs) {n : Nat} (all : AllFn P w K mg base T st tb cs n) {d : FD} {s0 : Stmt} {X : Cx} {Pm : LamR} {j : Nat} (nd : d.N.Nodup) (hP : X.prog = P) (hw : X.w = w) (hK : X.K = K) (hm : X.mg = mg) (hb : X.base = base) (hN : X.N = d.N) (lk : LOk T d s0 j Pm) {L : Lam} (eL : T.lams[j]? = some L)
    (A : Around) (up : List PySem.Env) (s : Shared) (H : Hp) (E : XK) (f c : Addr) (hg : A.guards = some []) (hr : Room (n + 1) (A.deeper (LamX.lamEnv X Pm.scope s.heap.objs.size f c))) :
    PE (LamX.lamCx X A up s H E Pm.scope f c) Pm.body (tE (RXa mg T tb cs d s0 X.env) X.K (fun c d _ H => E c d H) (evE T.ctx (evCall T.ctx n) L.body)) := by
  subst hP hw hK hm hb
  obtain ⟨L', eL', hns, hpE, hkE⟩ := lk.L
  rw [eL] at eL'
  cases eL'
  have site : Site (RXa X.mg T tb cs d s0 X.env) T.ctx (evCall T.ctx n) ((T.nm d s0).lam1 Pm) (LamX.lamCx X A up s H E Pm.scope f c) (fun c d _ H => E c d H) := by
    refine { sc := rfl, nN := hN, nd := nd, cs := rfl, tb := ?_, calm := rfl, fs := fun _ z => (by cases z), tk := takes_of rfl rfl rfl rfl, bt := h.bt, kl := (fun _ _ e => by cases e), gl := fun j dd e => gl_at h j dd e, un := ?_, gd := hg, wd := fun z => (by cases z), wl := fun z => (by cases z), fv := fun f v h => h, fv' := fun f x np nd a e1 e2 => ⟨x, np, nd, a, e1, rfl, e2⟩, fn := fun g x np nd e => fn_at h all hr g x np nd e }
    · show (cs.map (·.2)).length = (T.tbls.map Cell.tbl).length
      rw [List.length_map, List.length_map, h.len]
    · have := hr.un
      show (A.deeper (LamX.lamEnv X Pm.scope s.heap.objs.size f c)).units + 100 < cLine
      omega
  have z := (sE L.body _ _ _ ((xE 60 Pm.body).filterMap Xi.pos) site hkE).1
  rw [hpE] at z
  exact z
theorem fn_step (h : TOk P T K mg st tb cs) (hT : ∀ p ∈ cs, LamX.TabB base mg p.1 p.2) (n : Nat) (all : AllFn P w K mg base T st tb cs n) (low : ∀ k, n = k + 2 → AllFn P w K mg base T st tb cs k) : AllFn P w K mg base T st tb cs (n + 1) := by
  intro f d hd fa fd F
  obtain ⟨O, -⟩ := h.fn f d hd
  obtain ⟨oc, od, dV, kV, doc, pm, an, cdv, ct, osl, rfl, lk, hcd, hcode⟩ := F.ex
  have npl : (d.N.take d.fn.np).length = d.fn.np := by rw [List.length_take]; have := O.np; omega
  refine ⟨fun vs H Q E z => by rw [npl]; exact spC_len hd z, fun A up s H args us vs Q E hr hg e0 hb rv z => ?_⟩
  refine LamX.run_ofS (N := d.N) lk hcd O.sc hr e0 hb rv (by rw [npl]; exact spC_len hd z) fun hr' => ?_
  generalize hX : cxOf (L2.CX P w) P w K mg base d.N d.name (defScope (st f)) fa cdv A up s H E = X
  have xP : X.prog = P := by subst hX; rfl
  have xw : X.w = w := by subst hX; rfl
  have xK : X.K = K := by subst hX; rfl
  have xm : X.mg = mg := by subst hX; rfl
  have xb : X.base = base := by subst hX; rfl
  have xN : X.N = d.N := by subst hX; rfl
  have xS : X.env.scope = defScope (st f) := by subst hX; rfl
  have xc : X.env.code = cdv := by subst hX; rfl
  have xq : X.env.qual ++ "<lambda>" = d.q := by subst hX; rfl
  have xA : X.A.guards = some [] := by rw [← hX]; exact hg
  have xr : Room (n + 1) X.A := by rw [← hX]; exact hr'
  have xcalm : X.calm = true := by subst hX; rfl
  have xfn : ∀ x, X.fn x = true := by rw [← hX]; exact fun _ => rfl
  have tk : Takes X (fun c d _ H => E c d H) := by rw [← hX]; exact takes_of rfl rfl rfl rfl
  have bk : X.env.blockKind = .function := by
    rw [← hX]
    show (if (defScope (st f)).kind.isAnnotationScope then ScopeKind.function else (defScope (st f)).kind) = .function
    rw [O.sc.kind]
    rfl
  have po : PassesOwn (model X.prog X.w) X.A X.env X.xe := by rw [← hX]; exact passes_of rfl
  have goal : ∃ t, PSs X (defBody (st f)) t ∧ t { nx := fun _ H' => Q .non H', rt := Q } (L2.start d.N vs) H := by
    clear hX hr' hr e0 hb
    subst xP xw xK xm xb
    have tbl : (cs.map (·.2)).length = (T.tbls.map Cell.tbl).length := by rw [List.length_map, List.length_map, h.len]
    have siteW : SiteW (RXa X.mg T tb cs d (st f) X.env) T.ctx (T.nm d (st f)) X := ⟨xS, xN, O.sc.nd, rfl, tbl, xcalm, xA⟩
    have lamOf : ∀ j, d.lb ≤ j → ((lamsSs 200 (defBody (st f)))[j - d.lb]?).isSome = true → ∃ Pm, (lamsSs 200 (defBody (st f)))[j - d.lb]? = some Pm ∧ LOk T d (st f) j Pm ∧ T.tbls[d.tab]? = some d.q := fun j h1 h2 => by
      obtain ⟨Pm, e⟩ := Option.isSome_iff_exists.mp h2
      obtain ⟨l1, l2⟩ := O.lam (j - d.lb) Pm e
      rw [show d.lb + (j - d.lb) = j by omega] at l1
      exact ⟨Pm, e, l1, l2⟩
    have lamEq : ∀ j Pm, (lamsSs 200 (defBody (st f)))[j - d.lb]? = some Pm → ∀ ff c, (RXa X.mg T tb cs d (st f) X.env).lp.lam j ff c = lamO (X.env.qual ++ "<lambda>") Pm.params Pm.body Pm.scope (cloFrom X.env.cells Pm.scope.names []) ff c := fun j Pm e ff c => by
      show (match (lamsSs 200 (defBody (st f)))[j - d.lb]? with
        | some P => lamO (X.env.qual ++ "<lambda>") P.params P.body P.scope (cloFrom X.env.cells P.scope.names []) ff c
        | none => .lst []) = _
      rw [e]
    have hWm : ∀ wi w0, T.ctx.wrds[wi]? = some w0 → ∃ a nm ga Ng ei stm h0 hds, WrdAt (RXa X.mg T tb cs d (st f) X.env) X.K X.mg w0 (nmOf (T.nm d (st f)).wr wi) a nm ga Ng ei stm h0 hds := fun wi w0 ew => by
        have ew : (T.wrds.map (·.2))[wi]? = some w0 := ew
        rw [List.getElem?_map] at ew
        cases e2 : T.wrds[wi]? with
        | none => rw [e2] at ew; cases ew
        | some q =>
          rw [e2] at ew
          cases ew
          have e3 : nmOf (T.nm d (st f)).wr wi = q.1 := by
            show nmOf (T.wrds.map (·.1)) wi = q.1
            unfold nmOf
            rw [List.getD_eq_getElem?_getD, List.getElem?_map, e2]
            rfl
          rw [e3]
          obtain ⟨a, nm, ga, Ng, ei, stm, h0, hds, z⟩ := h.wd wi q.1 q.2 e2
          exact ⟨a, nm, ga, Ng, ei, stm, h0, hds, z.lk, z.sc, z.at_, z.kp, z.body, z.hd.other, z.a0, z.av, z.ad, z.ac, z.e1, z.e2, z.ed, z.ec, z.rp, z.mr, z.exm⟩
    have hLm : ∀ j, (RXa X.mg T tb cs d (st f) X.env).lp.dom j → ∃ P L, T.ctx.lams[j]? = some L ∧ L.ns = (T.nm d (st f)).N.length ∧ ∀ ds S, evCall T.ctx n (T.ctx.fns.length + j) ds S = .bad ∨ ∃ k call2, Room (k + 2) X.A ∧ LamAt (RXa X.mg T tb cs d (st f) X.env) T.ctx call2 X k j P L ∧ evCall T.ctx n (T.ctx.fns.length + j) ds S = evE T.ctx call2 L.body (lamEnv L ds) S := fun j hj => by
        obtain ⟨Pm, e, l1, l2⟩ := lamOf j hj.1 hj.2
        obtain ⟨L, eL, hns, hpE, hkE⟩ := l1.L
        refine ⟨Pm, L, eL, hns, fun ds S => ?_⟩
        rcases lam_call (n := n) eL ds S with z | ⟨k, ek, z⟩
        · exact .inl z
        · refine .inr ⟨k + 1, evCall T.ctx k, by rw [ek] at xr; exact xr, ⟨lamEq j Pm e, by rw [xS]; exact LamX.lamS_by l1.sc, fun pm cv ctv => ?_, fun A2 up2 s2 H2 E2 f2 c2 hg2 hr2 => lam_walk h (low k ek) O.sc.nd rfl rfl rfl rfl rfl xN l1 eL A2 up2 s2 H2 E2 f2 c2 hg2 hr2⟩, z⟩
          rw [l1.args]
          rfl
    have lsOf : T.tbls[d.tab]? = some d.q → LamSite (RXa X.mg T tb cs d (st f) X.env) T.ctx (T.nm d (st f)) X := fun ht => by
        obtain ⟨p, ep, ec⟩ := hcode (List.getElem?_eq_some_iff.mp ht).1
        refine ⟨rfl, ⟨p.1, p.2, d.tab, xc.trans ec, hT p (List.mem_of_getElem? ep), ?_, ?_⟩, fun j a b => ⟨a, b⟩, fun j Lr e => ?_⟩
        · show (cs.map (·.2))[d.tab]? = _
          rw [List.getElem?_map, ep]
          rfl
        · show (T.tbls.map Cell.tbl)[d.tab]? = some (Cell.tbl (X.env.qual ++ "<lambda>"))
          rw [List.getElem?_map, ht, xq]
          rfl
        · obtain ⟨l1, _⟩ := O.lam (j - d.lb) Lr e
          refine ⟨lamEq j Lr e, ?_, by rw [xS]; exact LamX.lamS_by l1.sc⟩
          rw [l1.args]
          rfl
    have site : Site (RXa X.mg T tb cs d (st f) X.env) T.ctx (evCall T.ctx n) (T.nm d (st f)) X (fun c d _ H => E c d H) := by
      refine { sc := xS, nN := xN, nd := O.sc.nd, cs := rfl, tb := tbl, calm := xcalm, fs := fun x _ => xfn x, tk := tk, bt := h.bt, kl := (fun _ _ e => by cases e), gl := fun j dd e => gl_at h j dd e, un := (by have := xr.un; omega), gd := xA, wd := fun _ wi i x k ps hk => ?_, wl := fun _ wi j is ps hk => ?_, fv := fun f v h => h, fv' := fun f x np nd a e1 e2 => ⟨x, np, nd, a, e1, rfl, e2⟩, fn := fun g x np nd e => fn_at h all xr g x np nd e }
      · exact words_ok siteW hk (fun w0 ew => hWm wi w0 ew) hLm rfl
      · have hk' := hk
        rw [kE] at hk'
        simp only [Bool.and_eq_true] at hk'
        obtain ⟨_, q3, q4⟩ := hk'
        obtain ⟨Pm, _, _, ht⟩ := lamOf j (Nat.ble_eq.mp q3) q4
        exact lwd_ok siteW (lsOf ht) hk (fun w0 ew => hWm wi w0 ew) hLm
    have hb := sSs (RX := RXa X.mg T tb cs d (st f) X.env) (Ex := E) d.fn.body (T.nm d (st f)) X (fun c d _ H => E c d H) ((xSs 200 (defBody (st f))).filterMap Xi.pos) { site with bk := bk, po := po, hE := fun _ _ _ _ z => z, cl := fun _ i js ps hk => ?_, rs := fun c e ps hk => ?_ } O.ok
    · rw [O.body] at hb
      refine ⟨_, hb, ?_⟩
      obtain ⟨ds, μ, S, t, r, pre, z⟩ := z
      rw [evCall, fns_at hd] at z
      dsimp only at z
      split at z
      · rename_i hl
        have hl : ds.length = d.fn.np := eq_of_beq hl
        refine ⟨_, μ, S, t, start_re r O.ns pre (fun i hi => O.cs i (by omega)), (Out.bind (RX := RXa X.mg T tb cs d (st f) X.env) .refl z).imp fun fl S1 H1 μ1 s1 t1 ⟨_, _, _, h1⟩ => ?_⟩
        cases fl with
        | nx ρ =>
          intro σ _
          obtain ⟨r', S', μ', st', t', hr', q⟩ := fin_of (r := .v .non) (v := .non) t s1 t1 .non h1
          exact q _ hr'
        | rt r =>
          intro v hv
          obtain ⟨r', S', μ', st', t', hr', q⟩ := fin_of t s1 t1 hv h1
          exact q _ hr'
        | bk ρ => exact h1.elim
        | ct ρ => exact h1.elim
      · exact z.elim
    · rw [kS, Bool.and_eq_true, Bool.and_eq_true, Bool.and_eq_true] at hk
      obtain ⟨⟨⟨hi, hj⟩, hz⟩, hne⟩ := hk
      cases js with
      | nil => cases hne
      | cons j0 jr =>
        have h0 := List.all_eq_true.mp hj j0 List.mem_cons_self
        rw [Bool.and_eq_true] at h0
        obtain ⟨Pm, _, _, ht⟩ := lamOf j0 (Nat.ble_eq.mp h0.1) h0.2
        have ls := lsOf ht
        rw [pS]
        exact sClos site ls hi hj (Nat.ble_eq.mp hz)
    · refine sRaise site (fun _ _ _ _ z => z) (xr.mono (by omega)) (fun c k e => ?_) hk
      have e : (T.excs.map (·.2))[c]? = some k := e
      rw [List.getElem?_map] at e
      cases e2 : T.excs[c]? with
      | none => rw [e2] at e; cases e
      | some q =>
        rw [e2] at e
        cases e
        have e3 : nmOf (T.nm d (st f)).ex c = q.1 := by
          show nmOf (T.excs.map (·.1)) c = q.1
          unfold nmOf
          rw [List.getD_eq_getElem?_getD, List.getElem?_map, e2]
          rfl
        rw [e3]
        obtain ⟨r1, r2⟩ := h.er c q.1 q.2 e2
        refine ⟨(List.getElem?_eq_some_iff.mp e2).1, ?_, r1, r2, fun z => h.xi c z⟩
        show (T.excs.map (·.2))[c]? = _
        rw [List.getElem?_map, e2]
        rfl
  exact goal
/-- every def keeps what the evaluator says -/
theorem fn_all (h : TOk P T K mg st tb cs) (hT : ∀ p ∈ cs, LamX.TabB base mg p.1 p.2) : ∀ n, AllFn P w K mg base T st tb cs n := by
  have key : ∀ n, ∀ k, k ≤ n → AllFn P w K mg base T st tb cs k := by
    intro n
    have zero : AllFn P w K mg base T st tb cs 0 := fun f d hd fa fd F => ⟨fun vs H Q E z => by obtain ⟨_, _, _, _, _, _, z⟩ := z; exact z.elim, fun A up s H args us vs Q E _ _ _ _ _ z => by obtain ⟨_, _, _, _, _, _, z⟩ := z; exact z.elim⟩
    induction n with
    | zero =>
      intro k hk
      have : k = 0 := by omega
      subst this
      exact zero
    | succ n ih =>
      intro k hk
      by_cases e : k ≤ n
      · exact ih k e
      · have : k = n + 1 := by omega
        subst this
        exact fn_step h hT n (ih n (Nat.le_refl _)) fun k e => ih k (by omega)
  exact fun n => key n n (Nat.le_refl _)
end
end Q
end
section
-- SndZ
set_option Elab.async false
set_option linter.all false
set_option maxRecDepth 100000
set_option maxHeartbeats 4000000
namespace Q
open PySem PySem.Spec PyProof.Rows L2
/-! ### the law's call, tables of code objects tracked from the start, no text under way -/
section
variable {P : Program} {w : World} {K : PySem.W.Frag} {mg mb : Str → Option Value} {h : Heap} {a : Addr} {cs : List (Addr × Addr)} {its : List Value} {ns : List Int}
/-- what is tracked at the law's call: the script, where it isn't written, and the tables -/
def track (K : PySem.W.Frag) (a : Addr) (its : List Value) (ns : List Int) (cs : List (Addr × Addr)) : Hp := fun b =>
  if b ∈ cs.map (·.2) then some (.tbl #[]) else if b = a ∧ K.lookup a = none then some (.frz { cls := .type "list", data := .seq its.toArray } (.lst (ns.map L2.V.int))) else none
/-- the heap that the head leaves -/
structure Head (K : PySem.W.Frag) (mg mb : Str → Option Value) (h : Heap) (a : Addr) (cs : List (Addr × Addr)) (its : List Value) (ns : List Int) : Prop where
  frag : K.In h
  glob : h.Ns mainGlobals mg
  blt : h.Ns builtinsNs mb
  boot : ∀ x : Str, x ≠ "__name__" → mb x = bootBuiltins x
  lim : h.NoLimit
  empty : ∀ p ∈ cs, h.get? p.2 = some { cls := .none, data := .fields #[] }
  out : ∀ p ∈ cs, K.lookup p.2 = none
  code : ∀ p ∈ cs, PySem.W.CodeHd h p.1 p.2
  bm : ∃ (bm : Addr) (ob : Obj), mg "__builtins__" = some (.ref bm) ∧ bm ≠ builtinsNs ∧ h.get? bm = some ob ∧ ob.cls = .type "module" ∧ ob.dict = some builtinsNs ∧ ob.data = .plain
  scr : h.get? a = some { cls := .type "list", data := .seq its.toArray }
  nums : IntsAre its ns
  size : ns.length ≤ sizeLine
variable (S : Head K mg mb h a cs its ns)
include S
theorem Head.at_tab {b : Addr} (hb : b ∈ cs.map (·.2)) : h.get? b = some { cls := .none, data := .fields #[] } := by
  obtain ⟨p, hp, rfl⟩ := List.mem_map.mp hb
  exact S.empty p hp
theorem Head.apart : a ∉ cs.map (·.2) := fun hb => by
  have z := (S.at_tab hb).symm.trans S.scr
  have := congrArg Obj.cls (Option.some.inj z)
  cases this
/-- what is tracked is the script or a table -/
theorem Head.which {b : Addr} {u : HO} (e : track K a its ns cs b = some u) : (b ∈ cs.map (·.2) ∧ u = .tbl #[]) ∨ (b = a ∧ K.lookup a = none ∧ u = .frz { cls := .type "list", data := .seq its.toArray } (.lst (ns.map L2.V.int))) := by
  unfold track at e
  split at e
  · rename_i hb; cases e; exact .inl ⟨hb, rfl⟩
  · split at e
    · rename_i hb; cases e; exact .inr ⟨hb.1, hb.2, rfl⟩
    · cases e
theorem Head.free {b : Addr} {o : Obj} (e : h.get? b = some o) (n1 : ∀ vs n, o.data ≠ .seq vs n) (n2 : o.data ≠ .fields #[]) : track K a its ns cs b = none := by
  cases q : track K a its ns cs b with
  | none => rfl
  | some u =>
    rcases S.which q with ⟨hb, _⟩ | ⟨hb, _⟩
    · have z := Option.some.inj ((S.at_tab hb).symm.trans e)
      exact absurd (congrArg Obj.data z).symm n2
    · rw [hb] at e
      have z := Option.some.inj (S.scr.symm.trans e)
      exact absurd (congrArg Obj.data z).symm (n1 _ _)
theorem Head.names {b : Addr} {m : Str → Option Value} (n : h.Ns b m) : (hidT h (track K a its ns cs)).Ns b m := by
  obtain ⟨o, es, ep, e, hd, r⟩ := n
  exact ⟨o, es, ep, hidT_get e (S.free e (fun vs n z => by rw [hd] at z; cases z) (fun z => by rw [hd] at z; cases z)), hd, r⟩
theorem Head.fragB : K.In (hidT h (track K a its ns cs)) := fun b o e => hidT_get (S.frag b o e) (by
  cases q : track K a its ns cs b with
  | none => rfl
  | some u =>
    rcases S.which q with ⟨hb, _⟩ | ⟨hb, hk, _⟩
    · obtain ⟨p, hp, ep⟩ := List.mem_map.mp hb
      rw [← ep, S.out p hp] at e
      cases e
    · rw [hb, hk] at e
      cases e)
theorem Head.tabs : ∀ p ∈ cs, LamX.TabB (hidT h (track K a its ns cs)) mg p.1 p.2 := fun p hp => by
  refine ⟨?_, ?_, fun z => ?_⟩
  · obtain ⟨o, us, file, tf, flags, tg, inF, text, tt, e1, r1, r2, r3, r⟩ := S.code p hp
    refine ⟨o, us, file, tf, flags, tg, inF, text, tt, hidT_get e1 (S.free e1 (fun vs n z => by rw [r2] at z; cases z) fun z => ?_), r1, r2, r3, r⟩
    rw [r2] at z
    cases z
    simp at r3
  · obtain ⟨bm, ob, b1, b2, b3, b4, b5, b6⟩ := S.bm
    refine ⟨bm, ob, b1, b2, fun q => ?_, fun q => ?_, hidT_get b3 (S.free b3 (fun vs n z => by rw [b6] at z; cases z) fun z => by rw [b6] at z; cases z), b4, b5, b6⟩
    · obtain ⟨o, es, ep, e, hd, _⟩ := S.glob
      rw [q, e] at b3
      cases b3
      rw [hd] at b6
      cases b6
    · rw [q, S.empty p hp] at b3
      cases b3
      cases b6
  · obtain ⟨o, es, ep, e, hd, _⟩ := S.glob
    rw [z, S.empty p hp] at e
    cases e
    cases hd
theorem Head.heap : HOk P w (track K a its ns cs) h := fun b u q => by
  rcases S.which q with ⟨hb, rfl⟩ | ⟨rfl, _, rfl⟩
  · exact S.at_tab hb
  · exact ⟨S.scr, by rw [List.length_map]; exact S.size, its, _, vals_ints S.nums, S.scr⟩
theorem Head.script : SqL K (track K a its ns cs) a (ns.map L2.V.int) := by
  cases hk : K.lookup a with
  | some o =>
    have e := (S.frag a o hk).symm.trans S.scr
    cases e
    exact .inr ⟨_, its.toArray, _, hk, rfl, rfl, rfl, by rw [List.size_toArray, S.nums.length]; exact S.size, by simpa using vals_ints S.nums⟩
  | none => exact .inl (.inr ⟨{ cls := .type "list", data := .seq its.toArray }, by unfold track; rw [if_neg S.apart, if_pos ⟨rfl, hk⟩]⟩)
theorem Head.tbl (p : Addr × Addr) (hp : p ∈ cs) : track K a its ns cs p.2 = some (.tbl #[]) := by
  unfold track
  exact if_pos (List.mem_map.mpr ⟨p, hp, rfl⟩)
end
theorem law_go {P : Program} {w : World} {K : PySem.W.Frag} {mg mb : Str → Option Value} {CX : CXT} {k : Nat} {fa a : Addr} {cs : List (Addr × Addr)} {fd : FuncData} {x : Str} {sp : Sp} {s : Shared} {its : List Value} {ns : List Int} (S : Head K mg mb s.heap a cs its ns) (hg : s.gens = #[]) (hr : Room k callerA)
    (F : ∀ base : Heap, (∀ p ∈ cs, LamX.TabB base mg p.1 p.2) → FnG P w K mg base CX k fa fd [x] sp) (hb : ∀ (s : Shared) (u : Value), BindsTo s fd ⟨[u], []⟩ [(x, u)])
    (hsp : ∀ H : Hp, (∀ p ∈ cs, H p.2 = some (.tbl #[])) → SqL K H a (ns.map L2.V.int) → (∀ xs, H a ≠ some (.lst xs)) → sp [.ref a] H (fun v _ => v = .bl true) fun _ _ _ => False) (no : ∀ H e s', CX [] H s (fun _ _ _ => False) e s' → False) :
    codeAny (model P w) callerA (.call (.ref fa) ⟨[.ref a], []⟩) (fun r s' => r = .ok (.ret (.bool true)) ∧ OldK s.heap s'.heap ∧ s'.os = s.os ∧ AllBare s'.gens) s := by
  have e0 : Env0 P w K mg (hidT s.heap (track K a its ns cs)) callerA [] s (track K a its ns cs) :=
    ⟨rfl, ⟨S.fragB, S.names S.glob, ⟨mb, S.names S.blt, S.boot⟩, (let ⟨mc, h1, h2⟩ := S.lim; ⟨mc, S.names h1, h2⟩)⟩, fun b o e => of_hidT e, Nat.le_of_eq (hidT_size _ _), trivial, fun b hb => absurd (show b ∈ ([] : List Addr) from hb) (by simp), S.heap, .of_eq hg⟩
  refine codeAny_mono ((F _ S.tabs).go callerA [] s _ ⟨[.ref a], []⟩ [.ref a] [.ref a] _ _ hr rfl e0 (hb s (.ref a)) (.cons rfl .nil) (hsp _ S.tbl S.script fun xs z => by rcases S.which z with ⟨_, e⟩ | ⟨_, _, e⟩ <;> cases e)) ?_
  rintro (er | fl) s' z
  · exact (no _ er s' z).elim
  cases fl with
  | next => exact z.elim
  | brk => exact z.elim
  | cont => exact z.elim
  | ret u =>
    obtain ⟨v, H', os, bare, un, ok', rv, ev⟩ := z
    have ev : v = .bl true := ev
    subst ev
    obtain rfl : u = Value.bool true := rv
    have same : ∀ b o, b ∉ cs.map (·.2) → s.heap.get? b = some o → s'.heap.get? b = some o := fun b o out e => by
      cases q : track K a its ns cs b with
      | none => exact un.keep b o e q (fun z => absurd (show b ∈ ([] : List Addr) from z) (by simp)) (by simp)
      | some t =>
        rcases S.which q with ⟨hb, _⟩ | ⟨_, _, rfl⟩
        · exact absurd hb out
        · obtain ⟨g1, _⟩ := (S.heap (P := P) (w := w)) b _ q
          obtain ⟨g2, _⟩ := ok' b _ (un.frzs b _ _ q)
          rw [e] at g1
          cases g1
          exact g2
    have more : ∀ b, b ∈ cs.map (·.2) → ∃ ps : Array Value, s'.heap.get? b = some { cls := .none, data := .fields ps } := fun b hb => by
      obtain ⟨p, hp, rfl⟩ := List.mem_map.mp hb
      obtain ⟨m, z⟩ := un.tbls p.2 #[] (S.tbl p hp)
      exact ⟨_, ok' p.2 _ z⟩
    refine ⟨rfl, ⟨fun b o e => ?_, fun b o e => ?_⟩, os, bare⟩
    · by_cases hb : b ∈ cs.map (·.2)
      · obtain ⟨ps, z⟩ := more b hb
        have e1 := (S.at_tab hb).symm.trans e
        cases e1
        obtain ⟨p, hp, rfl⟩ := List.mem_map.mp hb
        exact .inr (.inl ⟨((S.code p hp).tab (S.empty p hp)).isCodeTable, rfl, #[], ps, rfl, by rw [Array.empty_append]; exact z⟩)
      · exact .inl (same b o hb e)
    · by_cases hb : b ∈ cs.map (·.2)
      · obtain ⟨ps, z⟩ := more b hb
        exact ⟨_, z⟩
      · exact ⟨o, same b o hb e⟩
/-- what is known of the law at the head's heap -/
def LawAt (l : PySem.W.OpenLaw) (w : World) (K : PySem.W.Frag) (CX : CXT) (k n : Nat) (x : Str) (mg : Str → Option Value) (fa : Addr) (h : Heap) : Prop :=
  ∃ (fd : FuncData) (cs : List (Addr × Addr)) (sp : Sp), (∀ p ∈ cs, h.get? p.2 = some { cls := .none, data := .fields #[] }) ∧ (∀ p ∈ cs, K.lookup p.2 = none) ∧ (∀ p ∈ cs, PySem.W.CodeHd h p.1 p.2) ∧ (∀ (s : Shared) (u : Value), BindsTo s fd ⟨[u], []⟩ [(x, u)]) ∧
    (∀ (H : Hp) (a : Addr) (ns : List Int), ns.length ≤ n → (∀ p ∈ cs, H p.2 = some (.tbl #[])) → SqL K H a (ns.map L2.V.int) → (∀ xs, H a ≠ some (.lst xs)) → sp [.ref a] H (fun v _ => v = .bl true) fun _ _ _ => False) ∧
    ∀ base : Heap, (∀ p ∈ cs, LamX.TabB base mg p.1 p.2) → FnG l.prog w K mg base CX k fa fd [x] sp
theorem walk_at {l : PySem.W.OpenLaw} {n k : Nat} {q : Program} {loose : List Str} {XP : (Str → Option Value) → Heap → Prop} {YP : World → Heap → Prop} {d : DefRec} {K : Params → PySem.W.Frag} {CX : World → CXT} {x : Str}
    (hn : l.most = some n) (hn2 : n ≤ sizeLine) (hdf : d.params.defaults = []) (hr : Room k callerA) (hY : ∀ (w : World) (h : Heap), YP w h → (K w.params).In h)
    (F : ∀ (w : World) (mg : Str → Option Value) (fa : Addr) (h : Heap), YP w h → (K w.params).In h → h.Ns mainGlobals mg → mg d.name = some (.ref fa) → (∀ (x : Str) (c P : Addr), ((recsOf q).find? (fun e => e.name == x)).isSome = true → PySem.W.tabIn (K w.params) x = some (c, P) → PySem.W.CodeHd h c P ∧ h.get? P = some { cls := .none, data := .fields #[] }) → LawAt l w (K w.params) (CX w) k n x mg fa h)
    (no : ∀ (w : World) (H : Hp) (s : Shared) (e : Value) (s' : Shared), CX w [] H s (fun _ _ _ => False) e s' → False) : PySem.W.WalkO q loose XP YP l.row.toRowW d [] (fun f vs => PySem.call f vs) := by
  refine Att.attach_callB hn hdf fun w s0 s mg mb fa o pm cd doc a its ns G Y ho hd hcd hmg hobj hints hlen _ hg => ?_
  have KX := hY w _ Y
  obtain ⟨fd, cs, sp, h1, h2, h3, hb, hsp, hF⟩ := F w mg fa _ Y KX G.T.g hmg fun x c P e1 e2 => (Option.isSome_iff_exists.mp e1).elim fun d0 e3 => PySem.W.tab_of G.T KX e3 e2
  exact law_go ⟨KX, G.T.g, G.T.b, G.T.builtins, G.T.nolimit, h1, h2, h3, G.T.bmain, hobj, hints, Nat.le_trans hlen hn2⟩ hg hr hF hb (fun H hH hS hN => hsp H a ns hlen hH hS hN) fun H e s' => no w H s e s'
end Q
end
section
-- Snd19
set_option Elab.async false
set_option linter.all false
set_option maxRecDepth 100000
set_option maxHeartbeats 4000000
namespace Q
open PySem PySem.Spec PyProof.Rows L2
theorem script_sp {C : Ctx} {n f ne : Nat} {tb : Nat → Addr × Str} {cs : List (Addr × Addr)} {qs : List Str} {K : PySem.W.Frag} {H : Hp} {a : Addr} {ns : List Int} {S' : Store} (hq : C.tbls = qs.map Cell.tbl) (hl : cs.length = qs.length) (hnd : (cs.map (·.2)).Nodup) (ht : ∀ p ∈ cs, H p.2 = some (.tbl #[])) (hs : SqL K H a (ns.map L2.V.int)) (hn : ∀ xs, H a ≠ some (.lst xs))
    (e : evCall C n f [.fl (ns.map D.int)] C.tbls = .ok (.v (.bl true)) S') : spC (RXb ne tb cs) K (evCall C n) f [.ref a] H (fun v _ => v = .bl true) fun _ _ _ => False := by
  have rs : ∀ (l : List Int) (H : Hp) μ, RDs K H μ (l.map D.int) (l.map L2.V.int) := fun l H μ => by
    induction l with
    | nil => exact .nil
    | cons i r ih => exact .cons (.int i) ih
  refine ⟨_, cs.map (·.2), C.tbls, ⟨?_, hnd, fun k c b e1 e2 => ?_⟩, .cons (.fl (vs := ns.map L2.V.int) ?_ (rs ns H _)) .nil, ⟨[], by simp [RXb]⟩, ?_⟩
  · rw [hq, List.length_map, List.length_map, hl]
  · rw [hq, List.getElem?_map] at e1
    obtain ⟨q, e3, e4⟩ := Option.map_eq_some_iff.mp e1
    rw [List.getElem?_map] at e2
    obtain ⟨p, e5, e6⟩ := Option.map_eq_some_iff.mp e2
    subst e4 e6
    exact ⟨.tbl #[], ht p (List.mem_of_getElem? e5), #[], rfl, True.intro, fun pos cv z => by cases z⟩
  · rcases hs with (hs | ⟨o, hs⟩) | hs
    · exact absurd hs (hn _)
    · exact .inl (.inl ⟨o, hs⟩)
    · exact .inr hs
  · rw [e]
    intro H' μ' _ _ v hv
    exact rd_bl hv
def scOk (N P : List Str) (sc : Scope) : Bool :=
  decide (sc.kind = .function) && (!sc.isCoroutine && (!sc.isGenerator && (decide N.Nodup && (decide (N.take P.length = P) && (P.all (fun x => sc.names.lookup x == some .local || sc.names.lookup x == some .cell) && sc.names.all (fun y => !(y.2 == .free)))))))
theorem sc_by {N P : List Str} {sc : Scope} (h : scOk N P sc = true) : FnScope N P sc := by
  unfold scOk at h
  obtain ⟨h1, h⟩ := and2 h
  obtain ⟨h2, h⟩ := and2 h
  obtain ⟨h3, h⟩ := and2 h
  obtain ⟨h4, h⟩ := and2 h
  obtain ⟨h5, h⟩ := and2 h
  obtain ⟨h6, h7⟩ := and2 h
  refine ⟨of_decide_eq_true h1, by simpa using h2, by simpa using h3, of_decide_eq_true h4, of_decide_eq_true h5, fun x hx => ?_, fun y hy => ?_⟩
  · have := List.all_eq_true.mp h6 x hx
    rw [Bool.or_eq_true] at this
    exact this.elim (fun z => .inl (eq_of_beq z)) fun z => .inr (eq_of_beq z)
  · have := List.all_eq_true.mp h7 y hy
    intro z
    rw [z] at this
    cases this
def topS (P : Program) (i : Nat) : Stmt := P.main.body.getD i (.Pass ⟨0, 0, 0, 0⟩)
/-- the lambdas of a def, printed back -/
def lamBack (T : Tab) (d : FD) (st : Stmt) : List Expr := (lamsSs 200 (defBody st)).zipIdx.map fun p => match T.lams[d.lb + p.2]? with
  | some L => (pE ((T.nm d st).lam1 p.1) L.body ((xE 60 p.1.body).filterMap Xi.pos)).1
  | none => .Constant .none 0 ⟨0, 0, 0, 0⟩
def lamGood (T : Tab) (d : FD) (st : Stmt) : Bool := (lamsSs 200 (defBody st)).zipIdx.all fun p => match T.lams[d.lb + p.2]? with
  | some L => L.ns == d.N.length && kE ((T.nm d st).lam1 p.1) L.body && LamX.lamSB (defScope st) p.1.scope
  | none => false
theorem fok_by {T : Tab} {d : FD} {st : Stmt} (b1 : (pSs (T.nm d st) d.fn.body ((xSs 200 (defBody st)).filterMap Xi.pos)).1 = defBody st) (b2 : kSs (T.nm d st) d.fn.body ((xSs 200 (defBody st)).filterMap Xi.pos) = true) (sc : FnScope d.N (d.N.take d.fn.np) (defScope st)) (ns : d.fn.ns = d.N.length) (np : d.fn.np ≤ d.N.length)
    (l1 : lamBack T d st = (lamsSs 200 (defBody st)).map (·.body)) (l2 : lamGood T d st = true) (l3 : (lamsSs 200 (defBody st)).map (·.params) = (lamsSs 200 (defBody st)).map fun _ => noArgs) (l4 : lamsSs 200 (defBody st) = [] ∨ T.tbls[d.tab]? = some d.q) (c : (List.range d.fn.np).all (fun i => !d.cs.contains i) = true) : FOk T d st := by
  refine ⟨b1, b2, sc, ns, np, fun i P e => ?_, fun i hi => ?_⟩
  · have e1 : ((lamsSs 200 (defBody st)).zipIdx)[i]? = some (P, i) := by
      rw [List.getElem?_zipIdx, e]
      simp
    have g := List.all_eq_true.mp l2 _ (List.mem_of_getElem? e1)
    have p := congrArg (fun l => l[i]?) l3
    have b := congrArg (fun l => l[i]?) l1
    dsimp only at p b g
    rw [List.getElem?_map, List.getElem?_map, e] at p
    unfold lamBack at b
    rw [List.getElem?_map, List.getElem?_map, e, e1] at b
    cases hL : T.lams[d.lb + i]? with
    | none => rw [hL] at g; cases g
    | some L =>
      rw [hL] at g
      dsimp only at g
      simp only [Bool.and_eq_true] at g
      obtain ⟨⟨g1, g3⟩, g4⟩ := g
      refine ⟨⟨⟨L, hL, by simpa using g1, ?_, g3⟩, Option.some.inj p, g4⟩, ?_⟩
      · have b := Option.some.inj b
        dsimp only at b
        rw [hL] at b
        exact b
      · rcases l4 with l4 | l4
        · rw [l4] at e; simp at e
        · exact l4
  · exact (Bool.not_eq_true' _).mp (List.all_eq_true.mp c i (List.mem_range.mpr hi))
def FAll (T : Tab) (K : PySem.W.Frag) (mg : Str → Option Value) (cs : List (Addr × Addr)) (st : Nat → Stmt) : Nat → List FD → Prop
  | _, [] => True
  | i, d :: r => (FOk T d (st i) ∧ ∃ fa fd, FAt T K mg cs d (st i) fa fd) ∧ FAll T K mg cs st (i + 1) r
theorem FAll.get {T : Tab} {K : PySem.W.Frag} {mg : Str → Option Value} {cs : List (Addr × Addr)} {st : Nat → Stmt} : ∀ {l : List FD} {i : Nat}, FAll T K mg cs st i l → ∀ (f : Nat) d, l[f]? = some d → FOk T d (st (i + f)) ∧ ∃ fa fd, FAt T K mg cs d (st (i + f)) fa fd
  | [], _, _, f, d, e => by simp at e
  | d0 :: r, i, h, 0, d, e => by
    simp at e
    subst e
    exact h.1
  | d0 :: r, i, h, f + 1, d, e => by
    have := FAll.get h.2 f d (by simpa using e)
    rw [show i + (f + 1) = i + 1 + f by omega]
    exact this
def GAll (K : PySem.W.Frag) (mg : Str → Option Value) : List (Str × D) → Prop
  | [] => True
  | q :: r => (∃ v u, mg q.1 = some u ∧ RelV v u ∧ ∀ H μ, RD K H μ q.2 v) ∧ GAll K mg r
theorem GAll.get {K : PySem.W.Frag} {mg : Str → Option Value} : ∀ {l : List (Str × D)}, GAll K mg l → ∀ (j : Nat) x d, l[j]? = some (x, d) → ∃ v u, mg x = some u ∧ RelV v u ∧ ∀ H μ, RD K H μ d v
  | [], _, j, x, d, e => by simp at e
  | q :: r, h, 0, x, d, e => by
    simp at e
    subst e
    exact h.1
  | q :: r, h, j + 1, x, d, e => GAll.get h.2 j x d (by simpa using e)
def BAll (mg : Str → Option Value) : List Str → Prop
  | [] => True
  | x :: r => mg x = none ∧ BAll mg r
theorem BAll.get {mg : Str → Option Value} : ∀ {l : List Str}, BAll mg l → ∀ x ∈ l, mg x = none
  | [], _, x, e => by cases e
  | y :: r, h, x, e => by
    rcases List.mem_cons.mp e with z | z
    · subst z; exact h.1
    · exact BAll.get h.2 x z
def EAll (P : Program) (K : PySem.W.Frag) (mg : Str → Option Value) (tb : Nat → Addr × Str) : Nat → List (Str × Bool) → Prop
  | _, [] => True
  | c, q :: r => (mg q.1 = some (.ref (tb c).1) ∧ ErrK P K mg (tb c).1 (tb c).2 q.2) ∧ EAll P K mg tb (c + 1) r
theorem EAll.get {P : Program} {K : PySem.W.Frag} {mg : Str → Option Value} {tb : Nat → Addr × Str} : ∀ {l : List (Str × Bool)} {i : Nat}, EAll P K mg tb i l → ∀ (c : Nat) x k, l[c]? = some (x, k) → mg x = some (.ref (tb (i + c)).1) ∧ ErrK P K mg (tb (i + c)).1 (tb (i + c)).2 k
  | [], _, _, c, x, k, e => by simp at e
  | q :: r, i, h, 0, x, k, e => by
    simp at e
    subst e
    exact h.1
  | q :: r, i, h, c + 1, x, k, e => by
    have := EAll.get h.2 c x k (by simpa using e)
    rw [show i + (c + 1) = i + 1 + c by omega]
    exact this
theorem tok_of {P : Program} {T : Tab} {K : PySem.W.Frag} {mg : Str → Option Value} {st : Nat → Stmt} {tb : Nat → Addr × Str} {cs : List (Addr × Addr)} (h1 : FAll T K mg cs st 0 T.fds) (h2 : GAll K mg T.gl) (h3 : BAll mg bnames) (h4 : EAll P K mg tb 0 T.excs)
    (h5 : ∀ (wi : Nat) x w, T.wrds[wi]? = some (x, w) → ∃ a nm ga Ng ei stm h0 hds, WrdAt (RXb T.excs.length tb cs) K mg w x a nm ga Ng ei stm h0 hds) (h6 : cs.length = T.tbls.length) (h7 : ∀ c, ((tb c).2 == ("limit" : Str)) = true → T.exi.contains c = true) : TOk P T K mg st tb cs :=
  ⟨fun f d e => by have := h1.get f d e; rwa [Nat.zero_add] at this, h2.get, h3.get, fun c x k e => by have := h4.get c x k e; rwa [Nat.zero_add] at this, h5, h6, h7⟩
section
variable {K : PySem.W.Frag} {h : Heap} {mg : Str → Option Value} {T : Tab} {cs : List (Addr × Addr)}
theorem fat_mk (X : K.In h) (G : h.Ns mainGlobals mg) {d : FD} {x y : Str} {st : Stmt} {f : Addr} {oc : Value} {od an : Option Addr} {osl : Array (Option Value)} {kV doc pm cdv ct : Value} (hx : d.name = x) (hy : d.als = y)
    (a : PySem.W.nsIn K mainGlobals y = some (some (.ref f))) (l : K.lookup f = some ⟨oc, od, .func (PySem.W.fnOf x x (defArgs st) (defBody st) (defScope st) .none kV doc pm an cdv ct), osl⟩)
    (c : PySem.W.codeIn K cdv x = true) (k : PySem.W.keepIn K (.ref f) = true) (hdf : d.fn.df = []) (ht : d.tab < T.tbls.length → ∃ p, cs[d.tab]? = some p ∧ cdv = .ref p.1)
    (b : ∀ (kV doc pm : Value) (an : Option Addr) (cdv ct : Value) (us : List Value), us.length = (d.N.take d.fn.np).length → bindArgs (PySem.W.fnOf x x (defArgs st) (defBody st) (defScope st) .none kV doc pm an cdv ct) ⟨us, []⟩ = pure ((d.N.take d.fn.np).zip us)) : ∃ fa fd, FAt T K mg cs d st fa fd := by
  subst hx hy
  refine ⟨f, _, ⟨⟨oc, od, .none, kV, doc, pm, an, cdv, ct, osl, rfl, l, c, ht⟩, PySem.W.mg_of X G a, k, fun n h1 h2 => ⟨[], [], .all (b kV doc pm an cdv ct), .nil, fun H μ => ?_⟩⟩⟩
  rw [hdf, List.drop_nil]
  exact .nil
/-- n values are given, j of the defaults among them -/
def BD (d : FD) (x : Str) (st : Stmt) (j : Nat) : Prop := ∀ (T : Addr) (kV doc pm : Value) (an : Option Addr) (cdv ct : Value) (us its : List Value), us.length = d.fn.np - d.fn.df.length + j → its.length = d.fn.df.length →
  ∃ k, bindArgs (PySem.W.fnOf x x (defArgs st) (defBody st) (defScope st) (.ref T) kV doc pm an cdv ct) ⟨us, []⟩ = seqItems? (.ref T) >>= k ∧ k (some its.toArray) = pure ((d.N.take d.fn.np).zip (us ++ its.drop j))
theorem fat_mkD (X : K.In h) (G : h.Ns mainGlobals mg) {d : FD} {x y : Str} {st : Stmt} {f Tp : Addr} {oc : Value} {od an dd : Option Addr} {osl sl : Array (Option Value)} {kV doc pm cdv ct : Value} {its : Array Value} {n0 : Nat} {is : List Int} (hx : d.name = x) (hy : d.als = y)
    (a : PySem.W.nsIn K mainGlobals y = some (some (.ref f))) (l : K.lookup f = some ⟨oc, od, .func (PySem.W.fnOf x x (defArgs st) (defBody st) (defScope st) (.ref Tp) kV doc pm an cdv ct), osl⟩)
    (c : PySem.W.codeIn K cdv x = true) (k : PySem.W.keepIn K (.ref f) = true) (lT : K.lookup Tp = some ⟨.type "tuple", dd, .seq its n0, sl⟩) (hdf : d.fn.df = is.map D.int) (hv : IntsAre its.toList is) (hnp : d.fn.df.length ≤ d.fn.np) (hN : d.fn.np ≤ d.N.length) (ht : d.tab < T.tbls.length → ∃ p, cs[d.tab]? = some p ∧ cdv = .ref p.1)
    (b : ∀ j, j ≤ d.fn.df.length → BD d x st j) : ∃ fa fd, FAt T K mg cs d st fa fd := by
  subst hx hy
  refine ⟨f, _, ⟨⟨oc, od, .ref Tp, kV, doc, pm, an, cdv, ct, osl, rfl, l, c, ht⟩, PySem.W.mg_of X G a, k, fun n h1 h2 => ?_⟩⟩
  have rs : ∀ (l : List Int) (H : Hp) μ, RDs K H μ (l.map D.int) (l.map L2.V.int) := fun l H μ => by
    induction l with
    | nil => exact .nil
    | cons i r ih => exact .cons (.int i) ih
  have hvl := vals_ints hv
  have hl : its.toList.length = d.fn.df.length := by rw [hdf, List.length_map, ← hv.length]
  refine ⟨its.toList.drop (d.fn.df.length - (d.fn.np - n)), (is.map L2.V.int).drop (d.fn.df.length - (d.fn.np - n)), fun s us KX hlen => ?_, hvl.drop _, fun H μ => ?_⟩
  · have hu : us.length = d.fn.np - d.fn.df.length + (d.fn.df.length - (d.fn.np - n)) := by
      rw [List.length_append, List.length_drop, hl, List.length_take] at hlen
      omega
    obtain ⟨k', e1, e2⟩ := b (d.fn.df.length - (d.fn.np - n)) (by omega) Tp kV doc pm an cdv ct us its.toList hu hl
    refine BindsTo.of_looks fun M => ?_
    rw [e1]
    exact looks_items KX lT rfl (by
      have : its.toList.toArray = its := by simp
      rw [this] at e2
      exact .of_pure e2)
  · rw [hdf]
    exact (rs is H μ).drop _
theorem law_at (X : K.In h) (G : h.Ns mainGlobals mg) {d : FD} {x y : Str} {st : Stmt} {f fa : Addr} {oc : Value} {od an : Option Addr} {osl : Array (Option Value)} {kV doc pm cdv ct : Value} (hm : mg x = some (.ref fa)) (hx : d.name = x) (ha : d.als = x)
    (a : PySem.W.nsIn K mainGlobals x = some (some (.ref f))) (l : K.lookup f = some ⟨oc, od, .func (PySem.W.fnOf x x (defArgs st) (defBody st) (defScope st) .none kV doc pm an cdv ct), osl⟩)
    (c : PySem.W.codeIn K cdv x = true) (k : PySem.W.keepIn K (.ref f) = true) (hdf : d.fn.df = []) (ht : d.tab < T.tbls.length → ∃ p, cs[d.tab]? = some p ∧ cdv = .ref p.1)
    (b : ∀ (kV doc pm : Value) (an : Option Addr) (cdv ct : Value) (us : List Value), us.length = (d.N.take d.fn.np).length → bindArgs (PySem.W.fnOf x x (defArgs st) (defBody st) (defScope st) .none kV doc pm an cdv ct) ⟨us, []⟩ = pure ((d.N.take d.fn.np).zip us)) (hy : d.N.take d.fn.np = [y]) :
    ∃ fd, FAt T K mg cs d st fa fd ∧ ∀ (s : Shared) (v : Value), BindsTo s fd ⟨[v], []⟩ [(y, v)] := by
  subst hx
  have e := (PySem.W.mg_of X G a).symm.trans hm
  cases e
  refine ⟨_, ⟨⟨oc, od, .none, kV, doc, pm, an, cdv, ct, osl, rfl, l, c, ht⟩, by rw [ha]; exact PySem.W.mg_of X G a, k, fun n h1 h2 => ⟨[], [], .all (b kV doc pm an cdv ct), .nil, fun H μ => ?_⟩⟩, fun s v => .of_eq ?_⟩
  · rw [hdf, List.drop_nil]
    exact .nil
  · rw [b kV doc pm an cdv ct [v] (by rw [hy]; rfl), hy]
    rfl
/-- an error's class without an __init__ -/
theorem err_plain (X : K.In h) (G : h.Ns mainGlobals mg) {P : Program} {x fld : Str} {C : Addr} {B newId initId : String} {bmB : List Value} (F : ExcBaseFacts B newId initId bmB) (a : PySem.W.nsIn K mainGlobals x = some (some (.ref C))) (q : PySem.W.excIn K C bmB newId = true) (k : PySem.W.keepIn K (.ref C) = true)
    (e : PySem.W.subIn K (.ref C) (.type "BaseException") = some true) (t : PySem.W.typeIn K (.ref C) = some (.type "type")) : mg x = some (.ref C) ∧ ErrK P K mg C fld false := ⟨PySem.W.mg_of X G a, .plain F q k e t⟩
/-- .. with an __init__ that keeps its argument -/
theorem err_kept (X : K.In h) (G : h.Ns mainGlobals mg) {P : Program} {x fld sf v : Str} {msg : Expr} {C fI cda cc : Addr} {B newId i : String} {bmB : List Value} {qual : Str} {st : Stmt} {oc ccl cl : Value} {od cdd cld an : Option Addr} {osl ccs csl : Array (Option Value)} {kV doc pm ct : Value} {vs : Array Value} {file : Str} {tf : Tok} {ar : Arg}
    (FB : ExcBaseFacts B newId i bmB) (KF : PySem.W.KxsFacts B i) (SF : StoreFacts B bmB "object.__setattr__" "object") (a : PySem.W.nsIn K mainGlobals x = some (some (.ref C))) (ini : PySem.W.excInitIn K C bmB newId = true) (over : PySem.W.excOver K C bmB = true) (iC : PySem.W.findIn K (.ref C) "__init__" = some (some (.ref fI))) (tI : PySem.W.typeIn K (.ref fI) = some (.type "function"))
    (lf : K.lookup fI = some ⟨oc, od, .func (PySem.W.ksFn "__init__" qual (defArgs st) (defBody st) (defScope st) .none kV doc pm an (.ref cda) ct cc), osl⟩) (hcd : PySem.W.codeIn K (.ref cda) qual = true) (cod : K.lookup cda = some ⟨ccl, cdd, .fields vs, ccs⟩) (hvs : vs[2]? = some (.str file tf)) (hfi : ((P.main.file : Str) == file) = true)
    (cel : K.lookup cc = some ⟨cl, cld, .cell (some (.ref C)), csl⟩) (sub : PySem.W.mroIn K C (.ref C) = some true) (nos : (P.main.scope.names.lookup ("super" : Str)).isSome = false) (mgs : PySem.W.nsIn K mainGlobals "super" = some none) (up : PySem.W.ks_superIn K C C "__init__" = some (some (.builtin i))) (hB : PySem.W.subIn K (.ref C) (.type B) = some true)
    (opq : PySem.W.nsIn K cStatics "thirdparty.any" = some none) (tak : PySem.W.takerIn K C fld = some none) (sa : PySem.W.findIn K (.ref C) "__setattr__" = some (some (.builtin "object.__setattr__"))) (hh : PySem.W.hasDictIn K C = true) (exC : PySem.W.subIn K (.ref C) (.type "BaseException") = some true) (tyC : PySem.W.typeIn K (.ref C) = some (.type "type")) (kC : PySem.W.keepIn K (.ref C) = true)
    (body : ∃ p0 p1 p2 p3 p4 p5 p6 p7 p8 : Pos, (p2.endLine == p3.line) = true ∧ defBody st = [.Expr (.Call (.Attribute (.Call (.Name "super" p0) [] [] p1) "__init__" p2) [msg] [] p3) p4, .Assign [.Attribute (.Name sf p5) fld p6] (.Name v p7) p8]) (txt : MsgK (fld == ("limit" : Str)) v msg) (head : ((defArgs st).posonlyargs ++ (defArgs st).args).head? = some ar) (har : ar.arg = sf)
    (bind : ∀ (kV doc pm : Value) (an : Option Addr) (ct u0 u1 : Value), bindArgs (PySem.W.ksFn "__init__" qual (defArgs st) (defBody st) (defScope st) .none kV doc pm an (.ref cda) ct cc) ⟨[u0, u1], []⟩ = pure [(sf, u0), (v, u1)])
    (s1 : (defScope st).names.lookup ("super" : Str) = some .globalImplicit) (s2 : (defScope st).names.lookup ("__class__" : Str) = some .free) (s3 : (defScope st).names.lookup sf = some .local) (s4 : (defScope st).names.lookup v = some .local) (kind : (defScope st).kind = .function) (co : (defScope st).isCoroutine = false) (gen : (defScope st).isGenerator = false)
    (nc : (defScope st).names.all (fun y => !(y.2 == .cell)) = true) (dx : (v == ("__debug__" : Str)) = false) (ds : (sf == ("__debug__" : Str)) = false) (ne : (sf == v) = false) : mg x = some (.ref C) ∧ ErrK P K mg C fld true :=
  ⟨PySem.W.mg_of X G a, .kept ⟨FB, KF, SF, ini, over, iC, tI, ⟨_, _, _, _, _, _, _, _, lf⟩, hcd, ⟨_, _, _, _, _, _, cod, hvs, hfi⟩, ⟨_, _, _, cel⟩, sub, nos, PySem.W.mg_none_of X G mgs, up, hB, opq, tak, sa, hh, exC, tyC, kC, body, txt, ⟨ar, head, har⟩, bind, s1, s2, s3, s4, kind, co, gen,
    (fun y hy z => by have q := List.all_eq_true.mp nc y hy; rw [z] at q; cases q), dx, ds, by simpa using ne⟩⟩
theorem g_tup (X : K.In h) (G : h.Ns mainGlobals mg) {x : Str} {p : Addr} {dd : Option Addr} {its : Array Value} {n : Nat} {sl : Array (Option Value)} {is : List Int} (a : PySem.W.nsIn K mainGlobals x = some (some (.ref p)))
    (l : K.lookup p = some ⟨.type "tuple", dd, .seq its n, sl⟩) (hz : its.size ≤ 100) (hv : IntsAre its.toList is) : ∃ v u, mg x = some u ∧ RelV v u ∧ ∀ H μ, RD K H μ (.tup (is.map D.int)) v := by
  have rs : ∀ (l : List Int) (H : Hp) μ, RDs K H μ (l.map D.int) (l.map L2.V.int) := fun l H μ => by
    induction l with
    | nil => exact .nil
    | cons i r ih => exact .cons (.int i) ih
  exact ⟨.ref p, .ref p, PySem.W.mg_of X G a, rfl, fun H μ => .tup (.inr ⟨_, its, n, l, rfl, rfl, by rw [sizeLine_eq]; omega, vals_ints hv⟩) (rs is H μ)⟩
theorem g_int (X : K.In h) (G : h.Ns mainGlobals mg) {x : Str} {i : Int} {t : Tok} (a : PySem.W.nsIn K mainGlobals x = some (some (.int i t))) : ∃ v u, mg x = some u ∧ RelV v u ∧ ∀ H μ, RD K H μ (.int i) v :=
  ⟨.int i, .int i t, PySem.W.mg_of X G a, ⟨t, rfl⟩, fun H μ => .int i⟩
theorem g_str (X : K.In h) (G : h.Ns mainGlobals mg) {x y : Str} {t : Tok} (a : PySem.W.nsIn K mainGlobals x = some (some (.str y t))) : ∃ v u, mg x = some u ∧ RelV v u ∧ ∀ H μ, RD K H μ (.str y) v :=
  ⟨.str y, .str y t, PySem.W.mg_of X G a, ⟨t, rfl⟩, fun H μ => .str y⟩
end
theorem cx_no {P : Program} {w : World} {l : List PySem.Env} {H : Hp} {s : Shared} {e : Value} {s' : Shared} (h : L2.CX P w l H s (fun _ _ _ => False) e s') : False := by
  obtain ⟨_, _, _, _, _, _, _, _, _, _, _, _, z⟩ := h
  exact z.elim
theorem law_fn {P : Program} {w : World} {K : PySem.W.Frag} {mg : Str → Option Value} {T : Tab} {st : Nat → Stmt} {tb : Nat → Addr × Str} {cs : List (Addr × Addr)} {f n : Nat} {d : FD} {fa : Addr} {fd : FuncData} {x : Str} (tok : TOk P T K mg st tb cs) (hd : T.fds[f]? = some d) (F : FAt T K mg cs d (st f) fa fd) (hx : d.N.take d.fn.np = [x]) (base : Heap) (hT : ∀ p ∈ cs, LamX.TabB base mg p.1 p.2) :
    FnG P w K mg base (L2.CX P w) (n + 1) fa fd [x] (spC (RXb T.excs.length tb cs) K (evCall T.ctx n) f) := hx ▸ fn_all tok hT n f d hd fa fd F
def lawIx (T : Tab) : Nat := T.fds.length - 1
end Q
end
section
-- Snd20
set_option Elab.async false
set_option linter.all false
set_option maxRecDepth 100000
set_option maxHeartbeats 4000000
namespace Q
open PySem PySem.Spec PyProof.Rows L2
/-! ### the written part's places, told once -/
section
variable {K : PySem.W.Frag} {h : Heap} {mg : Str → Option Value}
theorem tab_mk {y : Str} {f c Pt : Addr} {oc c1 : Value} {od c2 : Option Addr} {fd : FuncData} {osl c3 : Array (Option Value)} {vs : Array Value} (a : PySem.W.nsIn K mainGlobals y = some (some (.ref f))) (l : K.lookup f = some ⟨oc, od, .func fd, osl⟩) (hc : fd.code = .ref c)
    (l2 : K.lookup c = some ⟨c1, c2, .fields vs, c3⟩) (h11 : (vs[11]? : Option Value) = some (.ref Pt)) : PySem.W.tabIn K y = some (c, Pt) := by
  unfold PySem.W.tabIn
  rw [a]
  dsimp only
  rw [l]
  dsimp only
  rw [hc]
  dsimp only
  rw [l2]
  dsimp only
  rw [h11]
theorem tab_code {y : Str} {f c Pt : Addr} {oc cdv : Value} {od : Option Addr} {fd : FuncData} {osl : Array (Option Value)} (a : PySem.W.nsIn K mainGlobals y = some (some (.ref f))) (l : K.lookup f = some ⟨oc, od, .func fd, osl⟩) (hc : fd.code = cdv) (e : PySem.W.tabIn K y = some (c, Pt)) : cdv = .ref c := by
  unfold PySem.W.tabIn at e
  rw [a] at e
  dsimp only at e
  rw [l] at e
  dsimp only at e
  rw [hc] at e
  split at e
  · split at e
    · split at e
      · cases e; rfl
      · cases e
    · cases e
  · cases e
/-- the tables of some defs -/
def Tabs (K : PySem.W.Frag) (h : Heap) : List Str → List (Addr × Addr) → Prop
  | [], [] => True
  | y :: r, p :: cs => (PySem.W.tabIn K y = some p ∧ K.lookup p.2 = none ∧ PySem.W.CodeHd h p.1 p.2 ∧ h.get? p.2 = some { cls := .none, data := .fields #[] }) ∧ Tabs K h r cs
  | _, _ => False
theorem Tabs.len : ∀ {l : List Str} {cs : List (Addr × Addr)}, Tabs K h l cs → cs.length = l.length
  | [], [], _ => rfl
  | y :: r, p :: cs, e => by rw [List.length_cons, List.length_cons, Tabs.len e.2]
  | [], _ :: _, e => e.elim
  | _ :: _, [], e => e.elim
theorem Tabs.mem : ∀ {l : List Str} {cs : List (Addr × Addr)}, Tabs K h l cs → ∀ p ∈ cs, K.lookup p.2 = none ∧ PySem.W.CodeHd h p.1 p.2 ∧ h.get? p.2 = some { cls := .none, data := .fields #[] }
  | [], [], _, p, hp => by simp at hp
  | y :: r, q :: cs, e, p, hp => by
    rcases List.mem_cons.mp hp with z | z
    · subst z; exact e.1.2
    · exact Tabs.mem e.2 p z
  | [], _ :: _, e, _, _ => e.elim
  | _ :: _, [], e, _, _ => e.elim
theorem Tabs.get : ∀ {l : List Str} {cs : List (Addr × Addr)}, Tabs K h l cs → ∀ (i : Nat) y, l[i]? = some y → ∃ p, cs[i]? = some p ∧ PySem.W.tabIn K y = some p
  | [], [], _, i, y, e => by simp at e
  | y :: r, q :: cs, t, 0, x, e => by simp at e; subst e; exact ⟨q, rfl, t.1.1⟩
  | y :: r, q :: cs, t, i + 1, x, e => by simpa using Tabs.get t.2 i x (by simpa using e)
  | [], _ :: _, t, _, _, _ => t.elim
  | _ :: _, [], t, _, _, _ => t.elim
/-- the errors' classes -/
def ErrsAt (P : Program) (K : PySem.W.Frag) (mg : Str → Option Value) : List (Str × Bool × Str) → List Addr → Prop
  | [], [] => True
  | q :: r, C :: as => ((mg q.1 = some (.ref C) ∧ ErrK P K mg C q.2.2 q.2.1) ∧ (q.2.1 = true → XfC K C ∧ PySem.W.findIn K (.ref C) q.2.2 = some none)) ∧ ErrsAt P K mg r as
  | _, _ => False
def tbOf (l : List (Str × Bool × Str)) (as : List Addr) : Nat → Addr × Str := fun c => (as.getD c 0, (l.getD c (Str.empty, false, Str.empty)).2.2)
def exiOf : List (Str × Bool × Str) → Nat → List Nat
  | [], _ => []
  | q :: r, i => if q.2.2 == ("limit" : Str) then i :: exiOf r (i + 1) else exiOf r (i + 1)
theorem exi_at : ∀ (l : List (Str × Bool × Str)) (i c : Nat), ((l.getD c (Str.empty, false, Str.empty)).2.2 == ("limit" : Str)) = true → (exiOf l i).contains (i + c) = true
  | [], i, c, h => by
    rw [List.getD_nil] at h
    exact absurd h (by decide)
  | q :: r, i, 0, h => by
    have h : (q.2.2 == ("limit" : Str)) = true := h
    unfold exiOf
    rw [if_pos h]
    simp
  | q :: r, i, c + 1, h => by
    have h : ((r.getD c (Str.empty, false, Str.empty)).2.2 == ("limit" : Str)) = true := h
    have z := exi_at r (i + 1) c h
    rw [show i + 1 + c = i + (c + 1) by omega] at z
    unfold exiOf
    by_cases e : (q.2.2 == ("limit" : Str)) = true
    · rw [if_pos e, List.contains_cons, z, Bool.or_true]
    · rw [if_neg e]; exact z
theorem tb_exi (l : List (Str × Bool × Str)) (as : List Addr) (c : Nat) (h : ((tbOf l as c).2 == ("limit" : Str)) = true) : (exiOf l 0).contains c = true := by
  have z := exi_at l 0 c h
  rwa [Nat.zero_add] at z
theorem ErrsAt.at {P : Program} : ∀ {l : List (Str × Bool × Str)} {as : List Addr}, ErrsAt P K mg l as → ∀ (c : Nat) x k f, l[c]? = some (x, k, f) → (mg x = some (.ref (tbOf l as c).1) ∧ ErrK P K mg (tbOf l as c).1 (tbOf l as c).2 k) ∧ (tbOf l as c).2 = f ∧ (k = true → XfC K (tbOf l as c).1 ∧ PySem.W.findIn K (.ref (tbOf l as c).1) f = some none)
  | [], [], _, c, x, k, f, e => by simp at e
  | q :: r, C :: as, t, 0, x, k, f, e => by
    simp at e
    subst e
    exact ⟨t.1.1, rfl, t.1.2⟩
  | q :: r, C :: as, t, c + 1, x, k, f, e => by simpa [tbOf] using ErrsAt.at t.2 c x k f (by simpa using e)
  | [], _ :: _, t, _, _, _, _, _ => t.elim
  | _ :: _, [], t, _, _, _, _, _ => t.elim
theorem ErrsAt.all {P : Program} {l : List (Str × Bool × Str)} {as : List Addr} (t : ErrsAt P K mg l as) : EAll P K mg (tbOf l as) 0 (l.map fun q => (q.1, q.2.1)) := by
  have key : ∀ (n : Nat) (r : List (Str × Bool × Str)), (∀ (i : Nat) q, r[i]? = some q → l[n + i]? = some q) → EAll P K mg (tbOf l as) n (r.map fun q => (q.1, q.2.1)) := by
    intro n r
    induction r generalizing n with
    | nil => intro _; exact True.intro
    | cons q r ih =>
      intro h
      refine ⟨(t.at n q.1 q.2.1 q.2.2 (h 0 q rfl)).1, ih (n + 1) fun i q' e => ?_⟩
      have := h (i + 1) q' e
      rwa [show n + (i + 1) = n + 1 + i by omega] at this
  exact key 0 l fun i q e => by rwa [Nat.zero_add]
def exmAll (K : PySem.W.Frag) (as : List Addr) : Bool := (List.range as.length).all fun c => (List.range as.length).all fun h => PySem.W.exmOne K (.ref (as.getD c 0)) (.ref (as.getD h 0)) == some (h == c)
theorem exm_at {l : List (Str × Bool × Str)} {as : List Addr} (e : exmAll K as = true) {c h : Nat} (hc : c < as.length) (hh : h < as.length) : PySem.W.exmOne K (.ref (tbOf l as c).1) (.ref (tbOf l as h).1) = some (h == c) := by
  have z := List.all_eq_true.mp (List.all_eq_true.mp e c (List.mem_range.mpr hc)) h (List.mem_range.mpr hh)
  exact eq_of_beq z
theorem ErrsAt.len {P : Program} : ∀ {l : List (Str × Bool × Str)} {as : List Addr}, ErrsAt P K mg l as → as.length = l.length
  | [], [], _ => rfl
  | q :: r, C :: as, t => by rw [List.length_cons, List.length_cons, ErrsAt.len t.2]
  | [], _ :: _, t => t.elim
  | _ :: _, [], t => t.elim
/-- a def that tells words, by its text -/
theorem wrd_mk (X : K.In h) (G : h.Ns mainGlobals mg) {P : Program} {errs : List (Str × Bool × Str)} {as : List Addr} {cs : List (Addr × Addr)} {w : Wrd} {gname a nm : Str} {ga : Addr} {Ng : List Str} {ei : Nat} {st : Stmt} {h0 : ExceptHandler} {hds : List ExceptHandler} {oc : Value} {od an : Option Addr} {osl : Array (Option Value)} {kV doc pm cdv ct : Value}
    (E : ErrsAt P K mg errs as) (ex : exmAll K as = true) (hn : w.hs.all (fun q => Nat.blt q.cls errs.length) = true) (ans : PySem.W.nsIn K mainGlobals gname = some (some (.ref ga))) (l : K.lookup ga = some ⟨oc, od, .func (PySem.W.fnOf gname gname (defArgs st) (defBody st) (defScope st) .none kV doc pm an cdv ct), osl⟩) (c : PySem.W.codeIn K cdv gname = true)
    (k : PySem.W.keepIn K (.ref ga) = true) (b : ∀ (kV doc pm : Value) (an : Option Addr) (cdv ct : Value) (us : List Value), us.length = 1 → bindArgs (PySem.W.fnOf gname gname (defArgs st) (defBody st) (defScope st) .none kV doc pm an cdv ct) ⟨us, []⟩ = pure ([a].zip us)) (sc : FnScope Ng [a] (defScope st))
    (body : ∃ (p1 p2 p3 p4 p5 p6 : Pos) (j : Nat), defBody st = [.Try [.Expr (.Call (.Name a p1) [] [] p2) p3] (h0 :: hds) [] [] p4, .Return (some (.Constant (.str w.fine) j p5)) p6]) (hd : HdW (RXb errs.length (tbOf errs as) cs) K mg (defScope st) nm (h0 :: hds) w.hs) (a0 : Ng[0]? = some a) (av : Vis (defScope st) a)
    (ad : (a == ("__debug__" : Str)) = false) (ac : (a == ("__classdict__" : Str)) = false) (e1 : Ng[ei]? = some nm) (e2 : (defScope st).names.lookup nm = some .local) (ed : (nm == ("__debug__" : Str)) = false) (ec : (nm == ("__classdict__" : Str)) = false) (rp : (defScope st).names.lookup ("repr" : Str) = some .globalImplicit) (mr : mg "repr" = none) :
    WrdAt (RXb errs.length (tbOf errs as) cs) K mg w gname a nm ga Ng ei st h0 hds := by
  refine ⟨⟨oc, od, .none, kV, doc, pm, an, cdv, ct, osl, l, c, .all fun us hl => b kV doc pm an cdv ct us hl⟩, sc, PySem.W.mg_of X G ans, k, body, hd, a0, av, ad, ac, e1, e2, ed, ec, rp, mr, fun q hq c hc => exm_at ex ?_ ?_⟩
  · rw [E.len]; exact hc
  · rw [E.len]; exact Nat.blt_eq.mp (List.all_eq_true.mp hn q hq)
end
end Q
namespace Q
theorem one_of {α β : Type} {R : α → β → Prop} {p : α × β} (h : R p.1 p.2) : ∀ (i : Nat) x y, [p][i]? = some (x, y) → R x y := fun i x y e => by
  cases i with
  | zero => simp at e; subst e; exact h
  | succ i => simp at e
theorem none_of {α β : Type} {R : α → β → Prop} : ∀ (i : Nat) x y, ([] : List (α × β))[i]? = some (x, y) → R x y := fun i x y e => by simp at e
end Q
namespace Q
open PySem PySem.Spec PyProof.Rows L2
theorem tab_at {K : PySem.W.Frag} {h : Heap} {q : Program} (tabs : ∀ (x : Str) (c P : Addr), ((recsOf q).find? (fun e => e.name == x)).isSome = true → PySem.W.tabIn K x = some (c, P) → PySem.W.CodeHd h c P ∧ h.get? P = some { cls := .none, data := .fields #[] })
    {y : Str} {f c Pt : Addr} {oc c1 : Value} {od c2 : Option Addr} {fd : FuncData} {osl c3 : Array (Option Value)} {vs : Array Value} (hr : ((recsOf q).find? (fun e => e.name == y)).isSome = true) (a : PySem.W.nsIn K mainGlobals y = some (some (.ref f))) (l : K.lookup f = some ⟨oc, od, .func fd, osl⟩) (hc : fd.code = .ref c)
    (l2 : K.lookup c = some ⟨c1, c2, .fields vs, c3⟩) (h11 : (vs[11]? : Option Value) = some (.ref Pt)) (out : K.lookup Pt = none) : PySem.W.tabIn K y = some (c, Pt) ∧ K.lookup Pt = none ∧ PySem.W.CodeHd h c Pt ∧ h.get? Pt = some { cls := .none, data := .fields #[] } :=
  ⟨tab_mk a l hc l2 h11, out, tabs y c Pt hr (tab_mk a l hc l2 h11)⟩
theorem tabs_ex {K : PySem.W.Frag} {h : Heap} (_ : K.In h) {l : List Str} {cs : List (Addr × Addr)} (t : Tabs K h l cs) (nd : (cs.map (·.2)).Nodup) : ∃ cs, Tabs K h l cs ∧ (cs.map (·.2)).Nodup := ⟨cs, t, nd⟩
theorem errs_ex {K : PySem.W.Frag} {h : Heap} (_ : K.In h) {P : Program} {mg : Str → Option Value} {l : List (Str × Bool × Str)} {as : List Addr} (t : ErrsAt P K mg l as) (e : exmAll K as = true) : ∃ as, ErrsAt P K mg l as ∧ exmAll K as = true := ⟨as, t, e⟩
end Q
namespace Q
open PySem PySem.Spec PyProof.Rows L2
theorem tab_at2 {K : PySem.W.Frag} {h : Heap} (KX : K.In h) {ts : List Addr} (tabs : ∀ P ∈ ts, h.get? P = some (PySem.W.tabObj #[]))
    {y : Str} {f c Pt : Addr} {oc c1 : Value} {od c2 : Option Addr} {fd : FuncData} {osl c3 : Array (Option Value)} {vs : Array Value} (a : PySem.W.nsIn K mainGlobals y = some (some (.ref f))) (l : K.lookup f = some ⟨oc, od, .func fd, osl⟩) (hc : fd.code = .ref c)
    (l2 : K.lookup c = some ⟨c1, c2, .fields vs, c3⟩) (h11 : (vs[11]? : Option Value) = some (.ref Pt)) (cd : PySem.W.codeHdIn K c Pt = true) (mem : Pt ∈ ts) (out : K.lookup Pt = none) : PySem.W.tabIn K y = some (c, Pt) ∧ K.lookup Pt = none ∧ PySem.W.CodeHd h c Pt ∧ h.get? Pt = some { cls := .none, data := .fields #[] } :=
  ⟨tab_mk a l hc l2 h11, out, PySem.W.codeHd_of_K KX cd, tabs Pt mem⟩
end Q
end
section
-- M1
set_option Elab.async false
set_option linter.all false
set_option maxRecDepth 100000
namespace Q
open PySem (Str Operator CmpOp BoolOp)

theorem fin_same (r : R) (S : Store) : fin S.length r S = .ok r S := by
  unfold fin
  rw [if_pos (Nat.ble_eq.mpr (Nat.le_refl _))]
theorem ev_call {C : Q.Ctx} {n f : Nat} {F : Fn} {ds : List D} {S : Store} (h : C.fns[f]? = some F) (hl : ds.length = F.np) : evCall C (n + 1) f ds S = (evSs C (evCall C n) F.body (start F ds) S).bind fun fl S' => match fl with
    | .rt r => fin S.length r S'
    | .nx _ => fin S.length (.v .non) S'
    | _ => .bad := by
  rw [evCall, h]
  show (if (ds.length == F.np) = true then _ else _) = _
  rw [if_pos (by rw [hl]; exact beq_self_eq_true _)] <;> congr 1
/-- a call that hands back r and leaves the store -/
theorem ev_pure {C : Q.Ctx} {n f : Nat} {F : Fn} {ds : List D} {S : Store} {r : R} (h : C.fns[f]? = some F) (hl : ds.length = F.np) (e : evSs C (evCall C n) F.body (start F ds) S = .ok (.rt r) S) : evCall C (n + 1) f ds S = .ok r S := by
  rw [ev_call h hl, e]
  exact fin_same r S
theorem ev_none {C : Q.Ctx} {n f : Nat} {F : Fn} {ds : List D} {S : Store} {ρ : Env} (h : C.fns[f]? = some F) (hl : ds.length = F.np) (e : evSs C (evCall C n) F.body (start F ds) S = .ok (.nx ρ) S) : evCall C (n + 1) f ds S = .ok (.v .non) S := by
  rw [ev_call h hl, e]
  exact fin_same _ S
/-! ### rows for simp -/
section
variable (S : Store) (b b' : Bool) (i j : Int) (x y : Str) (ds es : List D) (d e : D)
@[simp] theorem truth_bl : truth S (.v (.bl b)) = some b := rfl
@[simp] theorem truth_int : truth S (.v (.int i)) = some (i != 0) := rfl
@[simp] theorem truth_non : truth S (.v .non) = some false := rfl
@[simp] theorem truth_tup : truth S (.v (.tup ds)) = some (!ds.isEmpty) := rfl
@[simp] theorem truth_t : truth S (.t ds) = some (!ds.isEmpty) := rfl
@[simp] theorem settle_v {α : Type} (f : D → Store → Res α) : Q.settle (.v d) S f = f d S := rfl
@[simp] theorem settle_t {α : Type} (f : D → Store → Res α) : Q.settle (.t ds) S f = f (.ref S.length) (S ++ [.lst ds]) := rfl
@[simp] theorem add_int : evBin .Add S (.v (.int i)) (.v (.int j)) = .ok (.v (.int (i + j))) S := rfl
@[simp] theorem sub_int : evBin .Sub S (.v (.int i)) (.v (.int j)) = .ok (.v (.int (i - j))) S := rfl
theorem mul_int (h : mulOk i j = true) : evBin .Mult S (.v (.int i)) (.v (.int j)) = .ok (.v (.int (i * j))) S := by
  show (if mulOk i j = true then _ else _) = _
  rw [if_pos h]
theorem div_int (h : divOk j = true) : evBin .FloorDiv S (.v (.int i)) (.v (.int j)) = .ok (.v (.int (i.fdiv j))) S := by
  show (if divOk j = true then _ else _) = _
  rw [if_pos h]
theorem mod_int (h : j ≠ 0) : evBin .Mod S (.v (.int i)) (.v (.int j)) = .ok (.v (.int (i.fmod j))) S := by
  show (if (j == 0) = true then _ else _) = _
  rw [if_neg (by simpa using h)]
@[simp] theorem lt_int : evCmp .Lt S (.v (.int i)) (.v (.int j)) = some (decide (i < j)) := rfl
@[simp] theorem le_int : evCmp .LtE S (.v (.int i)) (.v (.int j)) = some (decide (i ≤ j)) := rfl
@[simp] theorem gt_int : evCmp .Gt S (.v (.int i)) (.v (.int j)) = some (decide (j < i)) := rfl
@[simp] theorem ge_int : evCmp .GtE S (.v (.int i)) (.v (.int j)) = some (decide (j ≤ i)) := rfl
@[simp] theorem is_bl : evCmp .Is S (.v (.bl b)) (.v (.bl b')) = some (b == b') := rfl
@[simp] theorem isnot_bl : evCmp .IsNot S (.v (.bl b)) (.v (.bl b')) = some (!(b == b')) := rfl
@[simp] theorem abs_int : evBi1 .abs S (.v (.int i)) = .ok (.v (.int (if i < 0 then -i else i))) S := rfl
@[simp] theorem len_tup : evBi1 .len S (.v (.tup ds)) = .ok (.v (.int ds.length)) S := rfl
@[simp] theorem len_t : evBi1 .len S (.t ds) = .ok (.v (.int ds.length)) S := rfl
@[simp] theorem len_fl : evBi1 .len S (.v (.fl ds)) = .ok (.v (.int ds.length)) S := rfl
@[simp] theorem tuple_t : evBi1 .tuple S (.t ds) = .ok (.v (.tup ds)) S := rfl
@[simp] theorem tuple_tup : evBi1 .tuple S (.v (.tup ds)) = .ok (.v (.tup ds)) S := rfl
@[simp] theorem list_tup : evBi1 .list S (.v (.tup ds)) = .ok (.t ds) S := rfl
@[simp] theorem ix_tup : getItem S (.v (.tup ds)) (.v (.int i)) = atD ds i := rfl
@[simp] theorem ix_fl : getItem S (.v (.fl ds)) (.v (.int i)) = atD ds i := rfl
@[simp] theorem ix_t : getItem S (.t ds) (.v (.int i)) = atD ds i := rfl
@[simp] theorem at0 : atD (d :: ds) 0 = some d := by
  show (L2.ixN (ds.length + 1) 0).bind _ = _
  unfold L2.ixN
  simp
@[simp] theorem at1 : atD (d :: e :: ds) 1 = some e := by
  show (L2.ixN (ds.length + 1 + 1) 1).bind _ = _
  unfold L2.ixN
  have h : (1 : Int) < (ds.length : Int) + 1 + 1 := by omega
  simp [h]
theorem slot0 (o : Option D) (r : Env) : (o :: r)[0]? = some o := rfl
theorem slotS (o : Option D) (r : Env) (n : Nat) : (o :: r)[n + 1]? = r[n]? := rfl
end
/-! ### the evaluator, node by node (not comprehensions, not loops) -/
section
variable (C : Q.Ctx) (call : Nat → List D → Store → Res R) (ρ : Env) (S : Store)
@[simp] theorem e_non : evE C call .non ρ S = .ok (.v .non) S := by rw [evE]
@[simp] theorem e_bl (b : Bool) : evE C call (.bl b) ρ S = .ok (.v (.bl b)) S := by rw [evE]
@[simp] theorem e_int (i : Int) : evE C call (.int i) ρ S = .ok (.v (.int i)) S := by rw [evE]
@[simp] theorem e_str (x : Str) : evE C call (.str x) ρ S = .ok (.v (.str x)) S := by rw [evE]
@[simp] theorem e_var (i : Nat) : evE C call (.var i) ρ S = match ρ[i]? with | some (some d) => .ok (.v d) S | _ => .bad := by
  rw [evE] <;> rfl
@[simp] theorem e_glb (j : Nat) : evE C call (.glb j) ρ S = Q.opt C.glb[j]? fun d => .ok (.v d) S := by rw [evE]
@[simp] theorem e_tup (es : Es) : evE C call (.tup es) ρ S = (evEs C call es ρ S).bind fun ds S => .ok (.v (.tup ds)) S := by rw [evE]
@[simp] theorem e_lst (es : Es) : evE C call (.lst es) ρ S = (evEs C call es ρ S).bind fun ds S => .ok (.t ds) S := by rw [evE]
@[simp] theorem e_bin (o : Operator) (a b : E) : evE C call (.bin o a b) ρ S = (evE C call a ρ S).bind fun x S => (evE C call b ρ S).bind fun y S => evBin o S x y := by rw [evE]
@[simp] theorem e_not (a : E) : evE C call (.not a) ρ S = (evE C call a ρ S).bind fun x S => Q.opt (truth S x) fun b => .ok (.v (.bl (!b))) S := by rw [evE]
@[simp] theorem e_neg (a : E) : evE C call (.neg a) ρ S = (evE C call a ρ S).bind fun x S => match x with | .v (.int i) => .ok (.v (.int (-i))) S | _ => .bad := by
  rw [evE] <;> rfl
@[simp] theorem e_cmp (o : CmpOp) (a b : E) : evE C call (.cmp o a b) ρ S = (evE C call a ρ S).bind fun x S => (evE C call b ρ S).bind fun y S => Q.opt (evCmp o S x y) fun c => .ok (.v (.bl c)) S := by rw [evE]
@[simp] theorem e_chn (o o' : CmpOp) (a b c : E) : evE C call (.chn o o' a b c) ρ S = (evE C call a ρ S).bind fun x S => (evE C call b ρ S).bind fun y S => Q.opt (evCmp o S x y) fun k =>
      if k then (evE C call c ρ S).bind fun z S => Q.opt (evCmp o' S y z) fun k => .ok (.v (.bl k)) S else .ok (.v (.bl false)) S := by rw [evE]
@[simp] theorem e_bop (o : BoolOp) (es : Es) : evE C call (.bop o es) ρ S = evBop C call o es ρ S := by rw [evE]
@[simp] theorem e_ife (c a b : E) : evE C call (.ife c a b) ρ S = (evE C call c ρ S).bind fun x S => Q.opt (truth S x) fun k => if k then evE C call a ρ S else evE C call b ρ S := by rw [evE]
@[simp] theorem e_idx (a i : E) : evE C call (.idx a i) ρ S = (evE C call a ρ S).bind fun x S => (evE C call i ρ S).bind fun y S => Q.opt (getItem S x y) fun d => .ok (.v d) S := by rw [evE]
@[simp] theorem e_slc (a : E) (lo hi : Eo) : evE C call (.slc a lo hi) ρ S = (evE C call a ρ S).bind fun x S => (evB C call lo ρ S).bind fun l S => (evB C call hi ρ S).bind fun h S => getSlice S x l h := by rw [evE]
@[simp] theorem e_rev (a : E) : evE C call (.rev a) ρ S = (evE C call a ρ S).bind fun x S => getRev S x := by rw [evE]
@[simp] theorem e_call (f : Nat) (es : Es) : evE C call (.call f es) ρ S = (evEs C call es ρ S).bind fun ds S => Q.opt (Q.fill C f ds) fun ds => call f ds S := by rw [evE]
@[simp] theorem e_bi1 (b : Bi1) (a : E) : evE C call (.bi1 b a) ρ S = (evE C call a ρ S).bind fun x S => evBi1 b S x := by rw [evE]
@[simp] theorem e_bi2 (b : Bi2) (a c : E) : evE C call (.bi2 b a c) ρ S = (evE C call a ρ S).bind fun x S => (evE C call c ρ S).bind fun y S => evBi2 b S x y := by rw [evE]
@[simp] theorem e_isi (a : E) (t : Ty) : evE C call (.isi a t) ρ S = (evE C call a ρ S).bind fun x S => Q.opt (tyIs S x t) fun b => .ok (.v (.bl b)) S := by rw [evE]
@[simp] theorem e_isiT (a : E) (ts : List Ty) : evE C call (.isiT a ts) ρ S = (evE C call a ρ S).bind fun x S => Q.opt (ts.mapM (tyIs S x)) fun bs => .ok (.v (.bl (bs.any id))) S := by rw [evE]
@[simp] theorem e_dct0 : evE C call .dct0 ρ S = .ok (.v (.ref S.length)) (S ++ [.dct []]) := by rw [evE]
@[simp] theorem s_asg (t : T) (e : E) : evS C call (.asg t e) ρ S = (evE C call e ρ S).bind fun x S => Q.settle x S fun d S => (calm (asT C call t d ρ S)).bind fun ρ S => .ok (.nx ρ) S := by rw [evS]
@[simp] theorem s_par2 (i j : Nat) (a b : E) : evS C call (.par2 i j a b) ρ S = (evE C call a ρ S).bind fun x S => Q.settle x S fun x S => (evE C call b ρ S).bind fun y S => Q.settle y S fun y S =>
      .ok (.nx ((ρ.set i (some x)).set j (some y))) S := by rw [evS]
@[simp] theorem s_par3 (i j k : Nat) (a b c : E) : evS C call (.par3 i j k a b c) ρ S = (evE C call a ρ S).bind fun x S => Q.settle x S fun x S => (evE C call b ρ S).bind fun y S => Q.settle y S fun y S =>
      (evE C call c ρ S).bind fun z S => Q.settle z S fun z S => .ok (.nx (((ρ.set i (some x)).set j (some y)).set k (some z))) S := by rw [evS]
@[simp] theorem s_expr (e : E) : evS C call (.expr e) ρ S = (evE C call e ρ S).bind fun _ S => .ok (.nx ρ) S := by rw [evS]
@[simp] theorem s_ife (c : E) (a b : Ss) : evS C call (.ife c a b) ρ S = (evE C call c ρ S).bind fun x S => Q.opt (truth S x) fun k => if k then evSs C call a ρ S else evSs C call b ρ S := by rw [evS]
@[simp] theorem s_ret (e : E) : evS C call (.ret e) ρ S = (evE C call e ρ S).bind fun x S => .ok (.rt x) S := by rw [evS]
@[simp] theorem s_ret0 : evS C call .ret0 ρ S = .ok (.rt (.v .non)) S := by rw [evS]
@[simp] theorem s_pass : evS C call .pass ρ S = .ok (.nx ρ) S := by rw [evS]
@[simp] theorem s_brk : evS C call .brk ρ S = .ok (.bk ρ) S := by rw [evS]
@[simp] theorem s_cont : evS C call .cont ρ S = .ok (.ct ρ) S := by rw [evS]
end
section
variable (C : Q.Ctx) (call : Nat → List D → Store → Res R) (ρ : Env) (S : Store)
@[simp] theorem es_nil : evEs C call .nil ρ S = .ok [] S := by rw [evEs]
@[simp] theorem es_cons (e : E) (r : Es) : evEs C call (.cons e r) ρ S = (evE C call e ρ S).bind fun x S => Q.settle x S fun d S => (evEs C call r ρ S).bind fun ds S => .ok (d :: ds) S := by rw [evEs]
@[simp] theorem bop_one (o : BoolOp) (e : E) : evBop C call o (.cons e .nil) ρ S = evE C call e ρ S := by rw [evBop]
@[simp] theorem bop_two (o : BoolOp) (e e' : E) (r : Es) : evBop C call o (.cons e (.cons e' r)) ρ S = (evE C call e ρ S).bind fun x S => Q.opt (truth S x) fun k => match o with
    | .And => if k then evBop C call o (.cons e' r) ρ S else .ok x S
    | .Or => if k then .ok x S else evBop C call o (.cons e' r) ρ S := by rw [evBop] <;> rfl
@[simp] theorem eb_no : evB C call .no ρ S = .ok none S := by rw [evB]
@[simp] theorem eb_so (e : E) : evB C call (.so e) ρ S = (evE C call e ρ S).bind fun x S => match x with | .v (.int i) => .ok (some i) S | _ => .bad := by
  rw [evB] <;> rfl
@[simp] theorem ec_no : evC C call .no ρ S = .ok true S := by rw [evC]
@[simp] theorem ec_so (e : E) : evC C call (.so e) ρ S = (evE C call e ρ S).bind fun x S => Q.opt (truth S x) fun k => .ok k S := by rw [evC]
@[simp] theorem ss_nil : evSs C call .nil ρ S = .ok (.nx ρ) S := by rw [evSs]
@[simp] theorem ss_cons (s : Q.S) (r : Ss) : evSs C call (.cons s r) ρ S = (evS C call s ρ S).bind fun fl S => match fl with | .nx ρ => evSs C call r ρ S | fl => .ok fl S := by
  rw [evSs] <;> rfl
@[simp] theorem as_nm (i : Nat) (d : D) : asT C call (.nm i) d ρ S = .ok (ρ.set i (some d)) S := by rw [asT]
@[simp] theorem as_tp (ts : Ts) (d : D) : asT C call (.tp ts) d ρ S = Q.opt (tupOf ts.len d) fun ds => asTs C call ts ds ρ S := by rw [asT]
@[simp] theorem as_sb (o i : E) (d : D) : asT C call (.sb o i) d ρ S = (evE C call o ρ S).bind fun x S => (evE C call i ρ S).bind fun y S => match x, y with
    | .v (.ref n), .v (.int k) => match S[n]? with
      | some (.lst ds) => Q.opt (ixD ds.length k) fun j => .ok ρ (S.set n (.lst (ds.set j d)))
      | _ => .bad
    | _, _ => .bad := by
  rw [asT] <;> rfl
@[simp] theorem as_nil (ds : List D) : asTs C call .nil ds ρ S = if ds.isEmpty then .ok ρ S else .bad := by rw [asTs]
@[simp] theorem as_cons (t : T) (r : Ts) (ds : List D) : asTs C call (.cons t r) ds ρ S = Q.opt (uncons ds) fun p => (asT C call t p.1 ρ S).bind fun ρ S => asTs C call r p.2 ρ S := by rw [asTs]
@[simp] theorem tru_bnd (f : Res R) : tru f = f.bind fun x S => Q.opt (truth S x) fun k => .ok k S := rfl
end
end Q
end
section
-- M2
set_option Elab.async false
set_option linter.all false
set_option maxRecDepth 100000
namespace Q
open PySem (Str Operator CmpOp BoolOp)
/-! ### the greatest common divisor -/
def bGcd : Ss := (.cons (.par2 0 1 (.bi1 .abs (.var 0)) (.bi1 .abs (.var 1))) (.cons (.whl (.cmp .Gt (.var 1) (.int 0)) (.cons (.par2 0 1 (.var 1) (.bin .Mod (.var 0) (.var 1))) .nil)) (.cons (.ret (.var 0)) .nil)))
def fGcd : Fn := ⟨2, 2, [], bGcd⟩
theorem fmod_nat (a b : Nat) : (a : Int).fmod (b : Int) = ((a % b : Nat) : Int) := by
  rw [Int.fmod_eq_emod_of_nonneg _ (Int.natCast_nonneg b)]
  rfl
theorem abs_if (a : Int) : (if a < 0 then -a else a) = (a.natAbs : Int) := by
  split <;> omega
section
variable {C : Q.Ctx} {call : Nat → List D → Store → Res R} {S : Store}
theorem gcd_test (a b : Nat) : evE C call (.cmp .Gt (.var 1) (.int 0)) [some (.int a), some (.int b)] S = .ok (.v (.bl (decide (0 < (b : Int))))) S := by simp
theorem gcd_body (a b : Nat) (h : (b : Int) ≠ 0) : evSs C call (.cons (.par2 0 1 (.var 1) (.bin .Mod (.var 0) (.var 1))) .nil) [some (.int a), some (.int b)] S = .ok (.nx [some (.int b), some (.int ((a % b : Nat) : Int))]) S := by
  simp [mod_int S a b h, fmod_nat]
theorem whl_step {test : Env → Store → Res R} {body : Env → Store → Res Fl} {f : Nat} {ρ ρ' : Env} (h1 : test ρ S = .ok (.v (.bl true)) S) (h2 : body ρ S = .ok (.nx ρ') S) : evWhl test body (f + 1) ρ S = evWhl test body f ρ' S := by
  rw [evWhl, h1]
  simp only [Res.bind_ok, truth_bl, opt_some, if_true, h2]
theorem whl_end {test : Env → Store → Res R} {body : Env → Store → Res Fl} {f : Nat} {ρ : Env} (h1 : test ρ S = .ok (.v (.bl false)) S) : evWhl test body (f + 1) ρ S = .ok (.nx ρ) S := by
  rw [evWhl, h1]
  simp only [Res.bind_ok, truth_bl, opt_some, Bool.false_eq_true, if_false]
theorem gcd_loop : ∀ (f a b : Nat), b < f → evWhl (evE C call (.cmp .Gt (.var 1) (.int 0))) (evSs C call (.cons (.par2 0 1 (.var 1) (.bin .Mod (.var 0) (.var 1))) .nil)) f [some (.int a), some (.int b)] S = .ok (.nx [some (.int (Nat.gcd a b)), some (.int 0)]) S
  | 0, a, b, h => absurd h (Nat.not_lt_zero _)
  | f + 1, a, b, h => by
    by_cases hb : b = 0
    · subst hb
      rw [whl_end (by rw [gcd_test]; rfl), Nat.gcd_zero_right]
      rfl
    · rw [whl_step (by rw [gcd_test, decide_eq_true (by omega)]) (gcd_body a b (by omega)), gcd_loop f b (a % b) (by have := Nat.mod_lt a (Nat.pos_of_ne_zero hb); omega)]
      rw [Nat.gcd_comm b, ← Nat.gcd_rec, Nat.gcd_comm]
theorem gcd_spec {n i : Nat} (h : C.fns[i]? = some fGcd) (a b : Int) (hf : b.natAbs < C.fuel) : evCall C (n + 1) i [.int a, .int b] S = .ok (.v (.int (Int.gcd a b))) S := by
  refine ev_pure h rfl ?_
  show evSs C (evCall C n) bGcd [some (.int a), some (.int b)] S = _
  have e0 : evS C (evCall C n) (.par2 0 1 (.bi1 .abs (.var 0)) (.bi1 .abs (.var 1))) [some (.int a), some (.int b)] S = .ok (.nx [some (.int a.natAbs), some (.int b.natAbs)]) S := by simp [abs_if]
  rw [bGcd, evSs, e0]
  show (evSs C (evCall C n) _ _ S) = _
  rw [evSs, evS, gcd_loop _ _ _ hf]
  simp [Int.gcd]
end
end Q
end
section
-- M3
set_option Elab.async false
set_option linter.all false
set_option maxRecDepth 100000
namespace Q
open PySem (Str Operator CmpOp BoolOp)
/-! ### sizes -/
def Lt (k : Nat) (i : Int) : Prop := i.natAbs < 2 ^ k
theorem Lt.mono {k l : Nat} {i : Int} (h : Lt k i) (e : k ≤ l) : Lt l i := Nat.lt_of_lt_of_le h (Nat.pow_le_pow_right (by decide) e)
theorem Lt.mul {k l : Nat} {i j : Int} (h : Lt k i) (g : Lt l j) : Lt (k + l) (i * j) := by
  unfold Lt at *
  rw [Int.natAbs_mul, Nat.pow_add]
  exact Nat.mul_lt_mul'' h g
theorem Lt.add {k l : Nat} {i j : Int} (h : Lt k i) (g : Lt l j) : Lt (k + l + 1) (i + j) := by
  have h1 := h.mono (Nat.le_add_right k l)
  have h2 := g.mono (Nat.le_add_left l k)
  unfold Lt at *
  rw [Nat.pow_succ]
  omega
theorem Lt.neg {k : Nat} {i : Int} (h : Lt k i) : Lt k (-i) := by
  unfold Lt at *
  omega
theorem Lt.sub {k l : Nat} {i j : Int} (h : Lt k i) (g : Lt l j) : Lt (k + l + 1) (i - j) := by
  rw [Int.sub_eq_add_neg]
  exact h.add g.neg
theorem log2_le {k : Nat} {i : Int} (h : Lt k i) : i.natAbs.log2 < k ∨ i.natAbs.log2 = 0 := by
  by_cases z : i.natAbs = 0
  · rw [z]; exact .inr (by decide)
  · exact .inl ((Nat.log2_lt z).mpr h)
theorem mulOk_of {k l : Nat} {i j : Int} (h : Lt k i) (g : Lt l j) (e : k + l ≤ 1000000) : mulOk i j = true := by
  unfold mulOk
  rw [Nat.blt_eq]
  rcases log2_le h with a | a <;> rcases log2_le g with b | b <;> omega
theorem divOk_of {k : Nat} {j : Int} (h0 : j ≠ 0) (h : Lt k j) (e : k ≤ 9000) : divOk j = true := by
  unfold divOk
  rw [Bool.and_eq_true, Nat.blt_eq]
  refine ⟨?_, by simpa using h0⟩
  rcases log2_le h with a | a <;> omega
/-! ### numbers -/
def num (q : Rat) : D := .tup [.int q.num, .int q.den]
theorem num_div {a b : Int} (hb : 0 < b) : D.tup [.int (a.fdiv (Int.gcd a b)), .int (b.fdiv (Int.gcd a b))] = num (Rat.divInt a b) := by
  have hg : (0 : Int) ≤ (Int.gcd a b : Int) := Int.natCast_nonneg _
  have hb0 : b ≠ 0 := by omega
  unfold num
  rw [Rat.num_divInt, Rat.den_divInt, if_neg hb0, Int.sign_eq_one_of_pos hb, Int.one_mul, Int.gcd_comm b a, Int.fdiv_eq_ediv_of_nonneg _ hg, Int.fdiv_eq_ediv_of_nonneg _ hg]
  have : ((b.natAbs / a.gcd b : Nat) : Int) = b / (a.gcd b : Int) := by
    rw [Int.natCast_ediv]
    congr 1
    omega
  rw [this]
def bReduced (g : Nat) : Ss := (.cons (.ife (.cmp .Lt (.var 1) (.int 0)) (.cons (.par2 0 1 (.bin .Sub (.int 0) (.var 0)) (.bin .Sub (.int 0) (.var 1))) .nil) .nil) (.cons (.asg (.nm 2) (.call g (.cons (.var 0) (.cons (.var 1) .nil)))) (.cons (.ret (.tup (.cons (.bin .FloorDiv (.var 0) (.var 2)) (.cons (.bin .FloorDiv (.var 1) (.var 2)) .nil)))) .nil)))
def fReduced (g : Nat) : Fn := ⟨2, 3, [], bReduced g⟩
section
variable {C : Q.Ctx} {call : Nat → List D → Store → Res R} {S : Store}
theorem gcd_lt {k : Nat} {a b : Int} (hb : b ≠ 0) (h : Lt k b) : Lt k (Int.gcd a b) := by
  unfold Lt at *
  have : Int.gcd a b ≤ b.natAbs := Nat.le_of_dvd (by omega) (Nat.gcd_dvd_right _ _)
  simp only [Int.natAbs_natCast]
  omega
theorem fill_of {f : Nat} {F : Fn} {ds : List D} (h : C.fns[f]? = some F) (hl : ds.length = F.np) : fill C f ds = some ds := by
  unfold fill
  rw [h]
  dsimp only
  rw [hl, Nat.sub_self, Nat.sub_zero, List.drop_length, List.append_nil, if_pos]
  simp
structure Big (C : Q.Ctx) : Prop where
  fuel : ∀ b : Int, Lt 9000 b → b.natAbs < C.fuel
theorem reduced_spec (B : Big C) {n i g : Nat} (h : C.fns[i]? = some (fReduced g)) (hg : C.fns[g]? = some fGcd) (a b : Int) (hb : b ≠ 0) (hk : Lt 9000 b) : evCall C (n + 2) i [.int a, .int b] S = .ok (.v (num (Rat.divInt a b))) S := by
  refine ev_pure h rfl ?_
  show evSs C (evCall C (n + 1)) (bReduced g) [some (.int a), some (.int b), none] S = _
  have key : ∀ a b : Int, 0 < b → Lt 9000 b → evSs C (evCall C (n + 1)) (.cons (.asg (.nm 2) (.call g (.cons (.var 0) (.cons (.var 1) .nil)))) (.cons (.ret (.tup (.cons (.bin .FloorDiv (.var 0) (.var 2)) (.cons (.bin .FloorDiv (.var 1) (.var 2)) .nil)))) .nil)) [some (.int a), some (.int b), none] S = .ok (.rt (.v (num (Rat.divInt a b)))) S := fun a b hb hk => by
    have hg0 : (Int.gcd a b : Int) ≠ 0 := by
      have := Int.gcd_pos_of_ne_zero_right a (show b ≠ 0 by omega)
      omega
    have hd := divOk_of hg0 (gcd_lt (a := a) (show b ≠ 0 by omega) hk) (Nat.le_refl _)
    have c := gcd_spec (S := S) (n := n) hg a b (B.fuel b hk)
    simp [fill_of (ds := [.int a, .int b]) hg rfl, c, calm, div_int S a _ hd, div_int S b _ hd]
    exact num_div hb
  by_cases hn : b < 0
  · have e := key (0 - a) (0 - b) (by omega) (by unfold Lt at *; omega)
    rw [bReduced, evSs]
    have e1 : evS C (evCall C (n + 1)) (.ife (.cmp .Lt (.var 1) (.int 0)) (.cons (.par2 0 1 (.bin .Sub (.int 0) (.var 0)) (.bin .Sub (.int 0) (.var 1))) .nil) .nil) [some (.int a), some (.int b), none] S = .ok (.nx [some (.int (0 - a)), some (.int (0 - b)), none]) S := by
      simp [hn]
    rw [e1]
    show evSs C _ _ _ _ = _
    rw [e, show Rat.divInt (0 - a) (0 - b) = Rat.divInt a b by rw [Int.zero_sub, Int.zero_sub, Rat.neg_divInt_neg]]
  · have e := key a b (by omega) hk
    rw [bReduced, evSs]
    have e1 : evS C (evCall C (n + 1)) (.ife (.cmp .Lt (.var 1) (.int 0)) (.cons (.par2 0 1 (.bin .Sub (.int 0) (.var 0)) (.bin .Sub (.int 0) (.var 1))) .nil) .nil) [some (.int a), some (.int b), none] S = .ok (.nx [some (.int a), some (.int b), none]) S := by
      simp [hn]
    rw [e1]
    exact e
end
end Q
end
section
-- M4
set_option Elab.async false
set_option linter.all false
set_option maxRecDepth 100000
namespace Q
open PySem (Str Operator CmpOp BoolOp PyData Paired)
/-! ### what is one -/
/-- a tree of intsD as data: p its data, n its depth -/
structure Py (d : D) (p : PyData) (n : Nat) : Prop where
  py : ∀ S f, n < f → D.py S f d = some p
  lay : p.canLay0 = true
  dp : p.depth ≤ n
theorem py_int (i : Int) : Py (.int i) (.int i) 0 := ⟨fun S f h => by
    cases f with
    | zero => omega
    | succ f => rfl, by rw [PyData.canLay0], by rw [PyData.depth]; exact Nat.le_refl _⟩
theorem pys {ds : List D} {ps : List PyData} {n : Nat} (h : Paired (fun d p => Py d p n) ds ps) : (∀ S f, n < f → ds.mapM (D.py S f) = some ps) ∧ PyData.canLayAll0 ps = true ∧ PyData.depthAll ps ≤ n := by
  induction h with
  | nil => exact ⟨fun S f _ => rfl, by rw [PyData.canLayAll0], by rw [PyData.depthAll]; exact Nat.zero_le _⟩
  | cons a r ih =>
    obtain ⟨h1, h2, h3⟩ := ih
    refine ⟨fun S f hf => ?_, ?_, ?_⟩
    · rw [List.mapM_cons, a.py S f hf, h1 S f hf]
      rfl
    · rw [PyData.canLayAll0, a.lay, h2]
      rfl
    · rw [PyData.depthAll]
      have := a.dp
      omega
theorem py_tup {ds : List D} {ps : List PyData} {n : Nat} (h : Paired (fun d p => Py d p n) ds ps) : Py (.tup ds) (.tuple ps) (n + 1) := by
  obtain ⟨h1, h2, h3⟩ := pys h
  refine ⟨fun S f hf => ?_, by rw [PyData.canLay0, h2], by rw [PyData.depth]; omega⟩
  cases f with
  | zero => omega
  | succ f =>
    show (ds.mapM (D.py S f)).map PyData.tuple = _
    rw [h1 S f (by omega)]
    rfl
theorem py_map {α : Type} {g : α → D} {p : α → PyData} {n : Nat} (h : ∀ a, Py (g a) (p a) n) : ∀ l : List α, Paired (fun d p => Py d p n) (l.map g) (l.map p)
  | [] => .nil
  | a :: r => .cons (h a) (py_map h r)
theorem Py.mono {d : D} {p : PyData} {n m : Nat} (h : Py d p n) (e : n ≤ m) : Py d p m := ⟨fun S f hf => h.py S f (by omega), h.lay, by have := h.dp; omega⟩
def pNum (q : Rat) : PyData := .tuple [.int q.num, .int q.den]
theorem py_num (q : Rat) : Py (num q) (pNum q) 1 := py_tup (.cons (py_int _) (.cons (py_int _) .nil))
def row (r : List Rat) : D := .tup (r.map num)
def pRow (r : List Rat) : PyData := .tuple (r.map pNum)
theorem py_row (r : List Rat) : Py (row r) (pRow r) 2 := py_tup (py_map py_num r)
def tabD (t : List (List Rat)) : D := .tup (t.map row)
def pTab (t : List (List Rat)) : PyData := .tuple (t.map pRow)
theorem py_tab (t : List (List Rat)) : Py (tabD t) (pTab t) 3 := py_tup (py_map py_row t)
def intsD (l : List Int) : D := .tup (l.map .int)
def pInts (l : List Int) : PyData := .tuple (l.map .int)
theorem py_ints (l : List Int) : Py (intsD l) (pInts l) 1 := py_tup (py_map py_int l)
theorem eqv_all {α : Type} [DecidableEq α] {p : α → PyData} (h : ∀ a b, PyData.eqv (p a) (p b) = decide (a = b)) : ∀ l m : List α, PyData.eqvAll (l.map p) (m.map p) = decide (l = m)
  | [], [] => by rw [List.map_nil, PyData.eqvAll]; rfl
  | [], b :: m => by rw [List.map_nil, List.map_cons, PyData.eqvAll]; rfl
  | a :: l, [] => by rw [List.map_nil, List.map_cons, PyData.eqvAll]; rfl
  | a :: l, b :: m => by
    rw [List.map_cons, List.map_cons, PyData.eqvAll, h, eqv_all h l m]
    by_cases h1 : a = b <;> by_cases h2 : l = m <;> simp [h1, h2]
theorem eqv_int (a b : Int) : PyData.eqv (.int a) (.int b) = decide (a = b) := by
  rw [PyData.eqv]
  rfl
theorem eqv_num (p q : Rat) : PyData.eqv (pNum p) (pNum q) = decide (p = q) := by
  unfold pNum
  rw [PyData.eqv, PyData.eqvAll, PyData.eqvAll, PyData.eqvAll, eqv_int, eqv_int, Bool.and_true]
  by_cases h : p = q
  · subst h
    simp
  · rw [decide_eq_false h]
    by_cases h1 : p.num = q.num
    · have : (p.den : Int) ≠ q.den := fun z => h (Rat.ext h1 (by omega))
      simp [this]
    · simp [h1]
theorem eqv_row (p q : List Rat) : PyData.eqv (pRow p) (pRow q) = decide (p = q) := by
  unfold pRow
  rw [PyData.eqv, eqv_all eqv_num]
theorem eqv_tab (p q : List (List Rat)) : PyData.eqv (pTab p) (pTab q) = decide (p = q) := by
  unfold pTab
  rw [PyData.eqv, eqv_all eqv_row]
theorem eqv_ints (p q : List Int) : PyData.eqv (pInts p) (pInts q) = decide (p = q) := by
  unfold pInts
  rw [PyData.eqv, eqv_all eqv_int]
theorem eqP_of {S : Store} {d e : D} {p q : PyData} {n m : Nat} (h : Py d p n) (g : Py e q m) (hn : n ≤ 64) (hm : m ≤ 64) : eqR S (.v d) (.v e) = some (PyData.eqv p q) := by
  unfold eqR
  have e1 : R.py S (.v d) = some p := h.py S 66 (by omega)
  have e2 : R.py S (.v e) = some q := g.py S 66 (by omega)
  rw [e1, e2]
  dsimp only
  rw [if_pos]
  unfold PySem.SeqAt.shaped
  have := h.dp
  have := g.dp
  rw [h.lay, g.lay, decide_eq_true (by omega : p.depth ≤ 64), decide_eq_true (by omega : q.depth ≤ 64)]
  rfl
theorem evc_eq (S : Store) (a b : R) : evCmp .Eq S a b = eqR S a b := by cases a <;> cases b <;> rfl
theorem evc_ne (S : Store) (a b : R) : evCmp .NotEq S a b = (eqR S a b).map (!·) := by cases a <;> cases b <;> rfl
section
variable (S : Store)
@[simp] theorem eq_int (p q : Int) : evCmp .Eq S (.v (.int p)) (.v (.int q)) = some (decide (p = q)) := by
  rw [evc_eq, eqP_of (py_int p) (py_int q) (by decide) (by decide), eqv_int]
@[simp] theorem ne_int (p q : Int) : evCmp .NotEq S (.v (.int p)) (.v (.int q)) = some (!decide (p = q)) := by
  rw [evc_ne, eqP_of (py_int p) (py_int q) (by decide) (by decide), eqv_int]
  rfl
@[simp] theorem eq_num (p q : Rat) : evCmp .Eq S (.v (num p)) (.v (num q)) = some (decide (p = q)) := by
  rw [evc_eq, eqP_of (py_num p) (py_num q) (by decide) (by decide), eqv_num]
@[simp] theorem ne_num (p q : Rat) : evCmp .NotEq S (.v (num p)) (.v (num q)) = some (!decide (p = q)) := by
  rw [evc_ne, eqP_of (py_num p) (py_num q) (by decide) (by decide), eqv_num]
  rfl
@[simp] theorem eq_row (p q : List Rat) : evCmp .Eq S (.v (row p)) (.v (row q)) = some (decide (p = q)) := by
  rw [evc_eq, eqP_of (py_row p) (py_row q) (by decide) (by decide), eqv_row]
@[simp] theorem ne_row (p q : List Rat) : evCmp .NotEq S (.v (row p)) (.v (row q)) = some (!decide (p = q)) := by
  rw [evc_ne, eqP_of (py_row p) (py_row q) (by decide) (by decide), eqv_row]
  rfl
@[simp] theorem eq_tab (p q : List (List Rat)) : evCmp .Eq S (.v (tabD p)) (.v (tabD q)) = some (decide (p = q)) := by
  rw [evc_eq, eqP_of (py_tab p) (py_tab q) (by decide) (by decide), eqv_tab]
@[simp] theorem ne_tab (p q : List (List Rat)) : evCmp .NotEq S (.v (tabD p)) (.v (tabD q)) = some (!decide (p = q)) := by
  rw [evc_ne, eqP_of (py_tab p) (py_tab q) (by decide) (by decide), eqv_tab]
  rfl
@[simp] theorem eq_ints (p q : List Int) : evCmp .Eq S (.v (intsD p)) (.v (intsD q)) = some (decide (p = q)) := by
  rw [evc_eq, eqP_of (py_ints p) (py_ints q) (by decide) (by decide), eqv_ints]
@[simp] theorem ne_ints (p q : List Int) : evCmp .NotEq S (.v (intsD p)) (.v (intsD q)) = some (!decide (p = q)) := by
  rw [evc_ne, eqP_of (py_ints p) (py_ints q) (by decide) (by decide), eqv_ints]
  rfl
end
end Q
end
section
-- M5
set_option Elab.async false
set_option linter.all false
set_option maxRecDepth 100000
namespace Q
open PySem (Str Operator CmpOp BoolOp PyData Paired)
/-! ### sums, products of numbers -/
/-- both parts below 2^k -/
structure Sz (k : Nat) (q : Rat) : Prop where
  n : Lt k q.num
  d : Lt k q.den
theorem Sz.mono {k l : Nat} {q : Rat} (h : Sz k q) (e : k ≤ l) : Sz l q := ⟨h.n.mono e, h.d.mono e⟩
theorem den_ne (q : Rat) : (q.den : Int) ≠ 0 := by
  have := q.den_nz
  omega
theorem sz_div {k : Nat} {a b : Int} (ha : Lt k a) (hb : Lt k b) (h0 : b ≠ 0) : Sz k (Rat.divInt a b) := by
  have hg : 0 < b.gcd a := Int.gcd_pos_of_ne_zero_left a h0
  refine ⟨?_, ?_⟩
  · rw [Rat.num_divInt]
    unfold Lt at *
    have h1 : (b.sign * a / (b.gcd a : Int)).natAbs ≤ (b.sign * a).natAbs := Int.natAbs_ediv_le_natAbs _ _
    rw [Int.natAbs_mul, Int.natAbs_sign_of_ne_zero h0, Nat.one_mul] at h1
    omega
  · rw [Rat.den_divInt, if_neg h0]
    unfold Lt at *
    rw [Int.natAbs_natCast]
    exact Nat.lt_of_le_of_lt (Nat.div_le_self _ _) hb
theorem add_div (p q : Rat) : p + q = Rat.divInt (p.num * q.den + q.num * p.den) (p.den * q.den) := by
  conv => lhs; rw [← Rat.num_divInt_den p, ← Rat.num_divInt_den q]
  rw [Rat.divInt_add_divInt _ _ (den_ne p) (den_ne q)]
theorem mul_div (p q : Rat) : p * q = Rat.divInt (p.num * q.num) (p.den * q.den) := by
  conv => lhs; rw [← Rat.num_divInt_den p, ← Rat.num_divInt_den q]
  rw [Rat.divInt_mul_divInt]
theorem Lt.add2 {k : Nat} {i j : Int} (h : Lt k i) (g : Lt k j) : Lt (k + 1) (i + j) := by
  unfold Lt at *
  rw [Nat.pow_succ]
  omega
theorem sz_add {k l : Nat} {p q : Rat} (h : Sz k p) (g : Sz l q) : Sz (k + l + 1) (p + q) := by
  rw [add_div]
  exact sz_div ((h.n.mul g.d).add2 ((g.n.mul h.d).mono (by omega))) ((h.d.mul g.d).mono (by omega)) (Int.mul_ne_zero (den_ne p) (den_ne q))
theorem sz_neg {k : Nat} {p : Rat} (h : Sz k p) : Sz k (-p) := ⟨by rw [Rat.neg_num]; exact h.n.neg, by rw [Rat.neg_den]; exact h.d⟩
theorem sz_sub {k l : Nat} {p q : Rat} (h : Sz k p) (g : Sz l q) : Sz (k + l + 1) (p - q) := by
  rw [Rat.sub_eq_add_neg]
  exact sz_add h (sz_neg g)
theorem sz_zero : Sz 1 0 := ⟨by unfold Lt; decide, by unfold Lt; decide⟩
theorem sz_one : Sz 1 1 := ⟨by unfold Lt; decide, by unfold Lt; decide⟩
theorem sz_mul {k l : Nat} {p q : Rat} (h : Sz k p) (g : Sz l q) : Sz (k + l) (p * q) := by
  rw [mul_div]
  exact sz_div (h.n.mul g.n) (h.d.mul g.d) (Int.mul_ne_zero (den_ne p) (den_ne q))
@[simp] theorem ix_num0 (S : Store) (q : Rat) : getItem S (.v (num q)) (.v (.int 0)) = some (.int q.num) := by
  unfold num
  rw [ix_tup, at0]
@[simp] theorem ix_num1 (S : Store) (q : Rat) : getItem S (.v (num q)) (.v (.int 1)) = some (.int q.den) := by
  unfold num
  rw [ix_tup, at1]
def bAdded (r : Nat) : Ss := (.cons (.ife (.chn .Eq .Eq (.idx (.var 0) (.int 1)) (.idx (.var 1) (.int 1)) (.int 1)) (.cons (.ret (.tup (.cons (.bin .Add (.idx (.var 0) (.int 0)) (.idx (.var 1) (.int 0))) (.cons (.int 1) .nil)))) .nil) .nil) (.cons (.ret (.call r (.cons (.bin .Add (.bin .Mult (.idx (.var 0) (.int 0)) (.idx (.var 1) (.int 1))) (.bin .Mult (.idx (.var 1) (.int 0)) (.idx (.var 0) (.int 1)))) (.cons (.bin .Mult (.idx (.var 0) (.int 1)) (.idx (.var 1) (.int 1))) .nil)))) .nil))
def fAdded (r : Nat) : Fn := ⟨2, 2, [], bAdded r⟩
def bMultiplied (r : Nat) : Ss := (.cons (.ife (.chn .Eq .Eq (.idx (.var 0) (.int 1)) (.idx (.var 1) (.int 1)) (.int 1)) (.cons (.ret (.tup (.cons (.bin .Mult (.idx (.var 0) (.int 0)) (.idx (.var 1) (.int 0))) (.cons (.int 1) .nil)))) .nil) .nil) (.cons (.ret (.call r (.cons (.bin .Mult (.idx (.var 0) (.int 0)) (.idx (.var 1) (.int 0))) (.cons (.bin .Mult (.idx (.var 0) (.int 1)) (.idx (.var 1) (.int 1))) .nil)))) .nil))
def fMultiplied (r : Nat) : Fn := ⟨2, 2, [], bMultiplied r⟩
section
variable {C : Q.Ctx} {call : Nat → List D → Store → Res R} {S : Store}
theorem num_int (x : Int) : D.tup [.int x, .int 1] = num (Rat.divInt x 1) := by
  unfold num
  rw [Rat.num_divInt, Rat.den_divInt]
  simp
theorem den_one {p q : Rat} (h1 : p.den = 1) (h2 : q.den = 1) : p + q = Rat.divInt (p.num + q.num) 1 ∧ p * q = Rat.divInt (p.num * q.num) 1 := by
  rw [add_div, mul_div, h1, h2]
  simp
theorem one_test {p q : Rat} {e : E} (h : ¬ (((p.den : Int) = q.den) ∧ (q.den : Int) = 1)) : evS C call (.ife (.chn .Eq .Eq (.idx (.var 0) (.int 1)) (.idx (.var 1) (.int 1)) (.int 1)) (.cons (.ret e) .nil) .nil) [some (num p), some (num q)] S = .ok (.nx [some (num p), some (num q)]) S := by
  by_cases h1 : (p.den : Int) = q.den
  · have h2 : ¬ (q.den : Int) = 1 := fun z => h ⟨h1, z⟩
    have h1' : p.den = q.den := by omega
    simp [h1', h2]
  · simp [h1]
theorem added_spec (B : Big C) {n i r g k l : Nat} (h : C.fns[i]? = some (fAdded r)) (hr : C.fns[r]? = some (fReduced g)) (hg : C.fns[g]? = some fGcd) {p q : Rat} (hp : Sz k p) (hq : Sz l q) (e : k + l ≤ 9000) : evCall C (n + 3) i [num p, num q] S = .ok (.v (num (p + q))) S := by
  refine ev_pure h rfl ?_
  show evSs C (evCall C (n + 2)) (bAdded r) [some (num p), some (num q)] S = _
  by_cases hd : p.den = 1 ∧ q.den = 1
  · simp [bAdded, hd.1, hd.2, (den_one hd.1 hd.2).1, num_int]
  · have hd' : ¬ (((p.den : Int) = q.den) ∧ (q.den : Int) = 1) := fun z => hd ⟨by omega, by omega⟩
    have c := reduced_spec (S := S) (n := n) B hr hg (p.num * q.den + q.num * p.den) (p.den * q.den) (Int.mul_ne_zero (den_ne p) (den_ne q)) ((hp.d.mul hq.d).mono e)
    have f := fill_of (C := C) (ds := [.int (p.num * q.den + q.num * p.den), .int (p.den * q.den)]) hr rfl
    have m1 := mul_int S p.num q.den (mulOk_of hp.n hq.d (by omega))
    have m2 := mul_int S q.num p.den (mulOk_of hq.n hp.d (by omega))
    have m3 := mul_int S p.den q.den (mulOk_of hp.d hq.d (by omega))
    have e1 := one_test (C := C) (call := evCall C (n + 2)) (S := S) (e := .tup (.cons (.bin .Add (.idx (.var 0) (.int 0)) (.idx (.var 1) (.int 0))) (.cons (.int 1) .nil))) hd'
    rw [bAdded, evSs, e1]
    simp [m1, m2, m3, f, c, add_div]
theorem multiplied_spec (B : Big C) {n i r g k l : Nat} (h : C.fns[i]? = some (fMultiplied r)) (hr : C.fns[r]? = some (fReduced g)) (hg : C.fns[g]? = some fGcd) {p q : Rat} (hp : Sz k p) (hq : Sz l q) (e : k + l ≤ 9000) : evCall C (n + 3) i [num p, num q] S = .ok (.v (num (p * q))) S := by
  refine ev_pure h rfl ?_
  show evSs C (evCall C (n + 2)) (bMultiplied r) [some (num p), some (num q)] S = _
  have m2 := mul_int S p.num q.num (mulOk_of hp.n hq.n (by omega))
  by_cases hd : p.den = 1 ∧ q.den = 1
  · simp [bMultiplied, hd.1, hd.2, (den_one hd.1 hd.2).2, num_int, m2]
  · have hd' : ¬ (((p.den : Int) = q.den) ∧ (q.den : Int) = 1) := fun z => hd ⟨by omega, by omega⟩
    have c := reduced_spec (S := S) (n := n) B hr hg (p.num * q.num) (p.den * q.den) (Int.mul_ne_zero (den_ne p) (den_ne q)) ((hp.d.mul hq.d).mono e)
    have f := fill_of (C := C) (ds := [.int (p.num * q.num), .int (p.den * q.den)]) hr rfl
    have m3 := mul_int S p.den q.den (mulOk_of hp.d hq.d (by omega))
    have e1 := one_test (C := C) (call := evCall C (n + 2)) (S := S) (e := .tup (.cons (.bin .Mult (.idx (.var 0) (.int 0)) (.idx (.var 1) (.int 0))) (.cons (.int 1) .nil))) hd'
    rw [bMultiplied, evSs, e1]
    simp [m2, m3, f, c, mul_div]
def bOpposite : Ss := (.cons (.ret (.tup (.cons (.bin .Sub (.int 0) (.idx (.var 0) (.int 0))) (.cons (.idx (.var 0) (.int 1)) .nil)))) .nil)
def fOpposite : Fn := ⟨1, 1, [], bOpposite⟩
theorem opposite_spec {n i : Nat} (h : C.fns[i]? = some fOpposite) (p : Rat) : evCall C (n + 1) i [num p] S = .ok (.v (num (-p))) S := by
  refine ev_pure h rfl ?_
  show evSs C (evCall C n) bOpposite [some (num p)] S = _
  simp [bOpposite]
  simp [num, Rat.neg_num, Rat.neg_den]
def bDivided (r : Nat) : Ss := (.cons (.ret (.call r (.cons (.bin .Mult (.idx (.var 0) (.int 0)) (.idx (.var 1) (.int 1))) (.cons (.bin .Mult (.idx (.var 0) (.int 1)) (.idx (.var 1) (.int 0))) .nil)))) .nil)
def fDivided (r : Nat) : Fn := ⟨2, 2, [], bDivided r⟩
theorem quot_div (p q : Rat) : p / q = Rat.divInt (p.num * q.den) (p.den * q.num) := by
  conv => lhs; rw [← Rat.num_divInt_den p, ← Rat.num_divInt_den q]
  rw [Rat.div_def, Rat.inv_divInt, Rat.divInt_mul_divInt]
theorem num_ne {q : Rat} (h : q ≠ 0) : q.num ≠ 0 := fun z => h (Rat.num_eq_zero.mp z)
theorem divided_spec (B : Big C) {n i r g k l : Nat} (h : C.fns[i]? = some (fDivided r)) (hr : C.fns[r]? = some (fReduced g)) (hg : C.fns[g]? = some fGcd) {p q : Rat} (hp : Sz k p) (hq : Sz l q) (hn : q ≠ 0) (e : k + l ≤ 9000) : evCall C (n + 3) i [num p, num q] S = .ok (.v (num (p / q))) S := by
  refine ev_pure h rfl ?_
  show evSs C (evCall C (n + 2)) (bDivided r) [some (num p), some (num q)] S = _
  have c := reduced_spec (S := S) (n := n) B hr hg (p.num * q.den) (p.den * q.num) (Int.mul_ne_zero (den_ne p) (num_ne hn)) ((hp.d.mul hq.n).mono e)
  have f := fill_of (C := C) (ds := [.int (p.num * q.den), .int (p.den * q.num)]) hr rfl
  have m1 := mul_int S p.num q.den (mulOk_of hp.n hq.d (by omega))
  have m2 := mul_int S p.den q.num (mulOk_of hp.d hq.n (by omega))
  simp [bDivided, m1, m2, f, c, quot_div]
/-! ### the law's own -/
def bFr : Ss := (.cons (.par2 3 4 (.bi1 .abs (.var 1)) (.bi1 .abs (.var 0))) (.cons (.whl (.cmp .Gt (.var 4) (.int 0)) (.cons (.par2 3 4 (.var 4) (.bin .Mod (.var 3) (.var 4))) .nil)) (.cons (.asg (.nm 2) (.ife (.cmp .Gt (.var 1) (.int 0)) (.int 1) (.neg (.int 1)))) (.cons (.ret (.tup (.cons (.bin .FloorDiv (.bin .Mult (.var 2) (.var 0)) (.var 3)) (.cons (.bin .FloorDiv (.bin .Mult (.var 2) (.var 1)) (.var 3)) .nil)))) .nil))))
def fFr : Fn := ⟨2, 5, [], bFr⟩
theorem fr_test (x y z : Option D) (a b : Nat) : evE C call (.cmp .Gt (.var 4) (.int 0)) [x, y, z, some (.int a), some (.int b)] S = .ok (.v (.bl (decide (0 < (b : Int))))) S := by simp
theorem fr_body (x y z : Option D) (a b : Nat) (h : (b : Int) ≠ 0) : evSs C call (.cons (.par2 3 4 (.var 4) (.bin .Mod (.var 3) (.var 4))) .nil) [x, y, z, some (.int a), some (.int b)] S = .ok (.nx [x, y, z, some (.int b), some (.int ((a % b : Nat) : Int))]) S := by
  simp [mod_int S a b h, fmod_nat]
theorem fr_loop (x y z : Option D) : ∀ (f a b : Nat), b < f → evWhl (evE C call (.cmp .Gt (.var 4) (.int 0))) (evSs C call (.cons (.par2 3 4 (.var 4) (.bin .Mod (.var 3) (.var 4))) .nil)) f [x, y, z, some (.int a), some (.int b)] S = .ok (.nx [x, y, z, some (.int (Nat.gcd a b)), some (.int 0)]) S
  | 0, a, b, h => absurd h (Nat.not_lt_zero _)
  | f + 1, a, b, h => by
    by_cases hb : b = 0
    · subst hb
      rw [whl_end (by rw [fr_test]; rfl), Nat.gcd_zero_right]
      rfl
    · rw [whl_step (by rw [fr_test, decide_eq_true (by omega)]) (fr_body x y z a b (by omega)), fr_loop x y z f b (a % b) (by have := Nat.mod_lt a (Nat.pos_of_ne_zero hb); omega)]
      rw [Nat.gcd_comm b, ← Nat.gcd_rec, Nat.gcd_comm]
theorem lt_one : Lt 1 1 := by unfold Lt; decide
theorem fr_spec (B : Big C) {n i : Nat} (h : C.fns[i]? = some fFr) (a b : Int) (hb : b ≠ 0) (ha : Lt 9000 a) (hk : Lt 9000 b) : evCall C (n + 1) i [.int a, .int b] S = .ok (.v (num (Rat.divInt a b))) S := by
  refine ev_pure h rfl ?_
  show evSs C (evCall C n) bFr [some (.int a), some (.int b), none, none, none] S = _
  have e0 : evS C (evCall C n) (.par2 3 4 (.bi1 .abs (.var 1)) (.bi1 .abs (.var 0))) [some (.int a), some (.int b), none, none, none] S = .ok (.nx [some (.int a), some (.int b), none, some (.int b.natAbs), some (.int a.natAbs)]) S := by simp [abs_if]
  rw [bFr, evSs, e0]
  show (evSs C (evCall C n) _ _ S) = _
  rw [evSs, evS, fr_loop _ _ _ _ _ _ (B.fuel a ha)]
  have hg : (Nat.gcd b.natAbs a.natAbs : Int) = Int.gcd b a := rfl
  have hg0 : (Int.gcd b a : Int) ≠ 0 := by
    have := Int.gcd_pos_of_ne_zero_left a hb
    omega
  have hd := divOk_of hg0 (k := 9000) (by rw [Int.gcd_comm]; exact gcd_lt hb hk) (Nat.le_refl _)
  have key : ∀ a b : Int, 0 < b → D.tup [.int (a.fdiv (Int.gcd b a)), .int (b.fdiv (Int.gcd b a))] = num (Rat.divInt a b) := fun a b hb => by
    rw [Int.gcd_comm]
    exact num_div hb
  by_cases hp : 0 < b
  · have m1 := mul_int S 1 a (mulOk_of lt_one ha (by omega))
    have m2 := mul_int S 1 b (mulOk_of lt_one hk (by omega))
    simp [hp, calm, m1, m2, hg, div_int S a _ hd, div_int S b _ hd]
    exact key a b hp
  · have m1 := mul_int S (-1) a (mulOk_of lt_one.neg ha (by omega))
    have m2 := mul_int S (-1) b (mulOk_of lt_one.neg hk (by omega))
    have k2 := key (-a) (-b) (by omega)
    rw [Int.gcd_neg, Int.neg_gcd, Rat.neg_divInt_neg] at k2
    simp [hp, calm, m1, m2, hg, div_int S (-a) _ hd, div_int S (-b) _ hd]
    exact k2
def bPlus (r : Nat) : Ss := (.cons (.ret (.call r (.cons (.bin .Add (.bin .Mult (.idx (.var 0) (.int 0)) (.idx (.var 1) (.int 1))) (.bin .Mult (.idx (.var 1) (.int 0)) (.idx (.var 0) (.int 1)))) (.cons (.bin .Mult (.idx (.var 1) (.int 1)) (.idx (.var 0) (.int 1))) .nil)))) .nil)
def fPlus (r : Nat) : Fn := ⟨2, 2, [], bPlus r⟩
def bMinus (r : Nat) : Ss := (.cons (.ret (.call r (.cons (.bin .Sub (.bin .Mult (.idx (.var 0) (.int 0)) (.idx (.var 1) (.int 1))) (.bin .Mult (.idx (.var 1) (.int 0)) (.idx (.var 0) (.int 1)))) (.cons (.bin .Mult (.idx (.var 1) (.int 1)) (.idx (.var 0) (.int 1))) .nil)))) .nil)
def fMinus (r : Nat) : Fn := ⟨2, 2, [], bMinus r⟩
def bTimes (r : Nat) : Ss := (.cons (.ret (.call r (.cons (.bin .Mult (.idx (.var 1) (.int 0)) (.idx (.var 0) (.int 0))) (.cons (.bin .Mult (.idx (.var 1) (.int 1)) (.idx (.var 0) (.int 1))) .nil)))) .nil)
def fTimes (r : Nat) : Fn := ⟨2, 2, [], bTimes r⟩
def bUnder : Ss := (.cons (.ret (.cmp .Lt (.bin .Mult (.idx (.var 0) (.int 0)) (.idx (.var 1) (.int 1))) (.bin .Mult (.idx (.var 1) (.int 0)) (.idx (.var 0) (.int 1))))) .nil)
def fUnder : Fn := ⟨2, 2, [], bUnder⟩
theorem add_div' (p q : Rat) : p + q = Rat.divInt (p.num * q.den + q.num * p.den) (q.den * p.den) := by rw [add_div, Int.mul_comm (q.den : Int)]
theorem mul_div' (p q : Rat) : p * q = Rat.divInt (q.num * p.num) (q.den * p.den) := by rw [mul_div, Int.mul_comm (q.den : Int), Int.mul_comm q.num]
theorem sub_div' (p q : Rat) : p - q = Rat.divInt (p.num * q.den - q.num * p.den) (q.den * p.den) := by
  rw [Rat.sub_eq_add_neg, add_div', Rat.neg_num, Rat.neg_den, Int.neg_mul, Int.sub_eq_add_neg]
theorem plus_spec (B : Big C) {n i r k l : Nat} (h : C.fns[i]? = some (fPlus r)) (hr : C.fns[r]? = some fFr) {p q : Rat} (hp : Sz k p) (hq : Sz l q) (e : k + l ≤ 4000) : evCall C (n + 2) i [num p, num q] S = .ok (.v (num (p + q))) S := by
  refine ev_pure h rfl ?_
  show evSs C (evCall C (n + 1)) (bPlus r) [some (num p), some (num q)] S = _
  have c := fr_spec (S := S) (n := n) B hr (p.num * q.den + q.num * p.den) (q.den * p.den) (Int.mul_ne_zero (den_ne q) (den_ne p)) (((hp.n.mul hq.d).add (hq.n.mul hp.d)).mono (by omega)) ((hq.d.mul hp.d).mono (by omega))
  have f := fill_of (C := C) (ds := [.int (p.num * q.den + q.num * p.den), .int (q.den * p.den)]) hr rfl
  have m1 := mul_int S p.num q.den (mulOk_of hp.n hq.d (by omega))
  have m2 := mul_int S q.num p.den (mulOk_of hq.n hp.d (by omega))
  have m3 := mul_int S q.den p.den (mulOk_of hq.d hp.d (by omega))
  simp [bPlus, m1, m2, m3, f, c, add_div']
theorem minus_spec (B : Big C) {n i r k l : Nat} (h : C.fns[i]? = some (fMinus r)) (hr : C.fns[r]? = some fFr) {p q : Rat} (hp : Sz k p) (hq : Sz l q) (e : k + l ≤ 4000) : evCall C (n + 2) i [num p, num q] S = .ok (.v (num (p - q))) S := by
  refine ev_pure h rfl ?_
  show evSs C (evCall C (n + 1)) (bMinus r) [some (num p), some (num q)] S = _
  have c := fr_spec (S := S) (n := n) B hr (p.num * q.den - q.num * p.den) (q.den * p.den) (Int.mul_ne_zero (den_ne q) (den_ne p)) (((hp.n.mul hq.d).sub (hq.n.mul hp.d)).mono (by omega)) ((hq.d.mul hp.d).mono (by omega))
  have f := fill_of (C := C) (ds := [.int (p.num * q.den - q.num * p.den), .int (q.den * p.den)]) hr rfl
  have m1 := mul_int S p.num q.den (mulOk_of hp.n hq.d (by omega))
  have m2 := mul_int S q.num p.den (mulOk_of hq.n hp.d (by omega))
  have m3 := mul_int S q.den p.den (mulOk_of hq.d hp.d (by omega))
  simp [bMinus, m1, m2, m3, f, c, sub_div']
theorem times_spec (B : Big C) {n i r k l : Nat} (h : C.fns[i]? = some (fTimes r)) (hr : C.fns[r]? = some fFr) {p q : Rat} (hp : Sz k p) (hq : Sz l q) (e : k + l ≤ 4000) : evCall C (n + 2) i [num p, num q] S = .ok (.v (num (p * q))) S := by
  refine ev_pure h rfl ?_
  show evSs C (evCall C (n + 1)) (bTimes r) [some (num p), some (num q)] S = _
  have c := fr_spec (S := S) (n := n) B hr (q.num * p.num) (q.den * p.den) (Int.mul_ne_zero (den_ne q) (den_ne p)) ((hq.n.mul hp.n).mono (by omega)) ((hq.d.mul hp.d).mono (by omega))
  have f := fill_of (C := C) (ds := [.int (q.num * p.num), .int (q.den * p.den)]) hr rfl
  have m1 := mul_int S q.num p.num (mulOk_of hq.n hp.n (by omega))
  have m3 := mul_int S q.den p.den (mulOk_of hq.d hp.d (by omega))
  simp [bTimes, m1, m3, f, c, mul_div']
theorem under_spec {n i k l : Nat} (h : C.fns[i]? = some fUnder) {p q : Rat} (hp : Sz k p) (hq : Sz l q) (e : k + l ≤ 4000) : evCall C (n + 1) i [num p, num q] S = .ok (.v (.bl (decide (p < q)))) S := by
  refine ev_pure h rfl ?_
  show evSs C (evCall C n) bUnder [some (num p), some (num q)] S = _
  have m1 := mul_int S p.num q.den (mulOk_of hp.n hq.d (by omega))
  have m2 := mul_int S q.num p.den (mulOk_of hq.n hp.d (by omega))
  simp [bUnder, m1, m2, Rat.lt_iff]
end
end Q
end
section
-- L35
set_option Elab.async false
set_option linter.all false
namespace Q
open PySem
def t_is_integer : Ss := (.cons (.ret (.bop .And (.cons (.isi (.var 0) .int) (.cons (.not (.isi (.var 0) .bool)) .nil)))) .nil)
def F_is_integer : Fn := ⟨1, 1, [], t_is_integer⟩
def t_common_divisor : Ss := (.cons (.par2 0 1 (.bi1 .abs (.var 0)) (.bi1 .abs (.var 1))) (.cons (.whl (.cmp .Gt (.var 1) (.int 0)) (.cons (.par2 0 1 (.var 1) (.bin .Mod (.var 0) (.var 1))) .nil)) (.cons (.ret (.var 0)) .nil)))
def F_common_divisor : Fn := ⟨2, 2, [], t_common_divisor⟩
def t_is_number (i_is_integer i_common_divisor : Nat) : Ss := (.cons (.ife (.bop .Or (.cons (.not (.isi (.var 0) .tuple)) (.cons (.cmp .NotEq (.bi1 .len (.var 0)) (.int 2)) (.cons (.not (.bi1 .all (.lc (.call i_is_integer (.cons (.var 1) .nil)) (.nm 1) (.seq (.var 0)) .no 0))) .nil)))) (.cons (.ret (.bl false)) .nil) .nil) (.cons (.ret (.bop .And (.cons (.cmp .GtE (.idx (.var 0) (.int 1)) (.int 1)) (.cons (.cmp .Eq (.call i_common_divisor (.cons (.idx (.var 0) (.int 0)) (.cons (.idx (.var 0) (.int 1)) .nil))) (.int 1)) .nil)))) .nil))
def F_is_number (i_is_integer i_common_divisor : Nat) : Fn := ⟨1, 2, [], t_is_number i_is_integer i_common_divisor⟩
def t_reduced (i_common_divisor : Nat) : Ss := (.cons (.ife (.cmp .Lt (.var 1) (.int 0)) (.cons (.par2 0 1 (.bin .Sub (.int 0) (.var 0)) (.bin .Sub (.int 0) (.var 1))) .nil) .nil) (.cons (.asg (.nm 2) (.call i_common_divisor (.cons (.var 0) (.cons (.var 1) .nil)))) (.cons (.ret (.tup (.cons (.bin .FloorDiv (.var 0) (.var 2)) (.cons (.bin .FloorDiv (.var 1) (.var 2)) .nil)))) .nil)))
def F_reduced (i_common_divisor : Nat) : Fn := ⟨2, 3, [], t_reduced i_common_divisor⟩
def t_require_count (i_is_integer : Nat) : Ss := (.cons (.ife (.bop .Or (.cons (.not (.call i_is_integer (.cons (.var 0) .nil))) (.cons (.not (.chn .LtE .LtE (.var 1) (.var 0) (.var 2))) .nil))) (.cons (.hole 0) .nil) .nil) .nil)
def F_require_count (i_is_integer : Nat) : Fn := ⟨3, 3, [.int 0, .int 60], t_require_count i_is_integer⟩
def t_added (i_reduced : Nat) : Ss := (.cons (.ife (.chn .Eq .Eq (.idx (.var 0) (.int 1)) (.idx (.var 1) (.int 1)) (.int 1)) (.cons (.ret (.tup (.cons (.bin .Add (.idx (.var 0) (.int 0)) (.idx (.var 1) (.int 0))) (.cons (.int 1) .nil)))) .nil) .nil) (.cons (.ret (.call i_reduced (.cons (.bin .Add (.bin .Mult (.idx (.var 0) (.int 0)) (.idx (.var 1) (.int 1))) (.bin .Mult (.idx (.var 1) (.int 0)) (.idx (.var 0) (.int 1)))) (.cons (.bin .Mult (.idx (.var 0) (.int 1)) (.idx (.var 1) (.int 1))) .nil)))) .nil))
def F_added (i_reduced : Nat) : Fn := ⟨2, 2, [], t_added i_reduced⟩
def t_multiplied (i_reduced : Nat) : Ss := (.cons (.ife (.chn .Eq .Eq (.idx (.var 0) (.int 1)) (.idx (.var 1) (.int 1)) (.int 1)) (.cons (.ret (.tup (.cons (.bin .Mult (.idx (.var 0) (.int 0)) (.idx (.var 1) (.int 0))) (.cons (.int 1) .nil)))) .nil) .nil) (.cons (.ret (.call i_reduced (.cons (.bin .Mult (.idx (.var 0) (.int 0)) (.idx (.var 1) (.int 0))) (.cons (.bin .Mult (.idx (.var 0) (.int 1)) (.idx (.var 1) (.int 1))) .nil)))) .nil))
def F_multiplied (i_reduced : Nat) : Fn := ⟨2, 2, [], t_multiplied i_reduced⟩
def t_opposite : Ss := (.cons (.ret (.tup (.cons (.bin .Sub (.int 0) (.idx (.var 0) (.int 0))) (.cons (.idx (.var 0) (.int 1)) .nil)))) .nil)
def F_opposite : Fn := ⟨1, 1, [], t_opposite⟩
def t_divided (i_reduced : Nat) : Ss := (.cons (.ret (.call i_reduced (.cons (.bin .Mult (.idx (.var 0) (.int 0)) (.idx (.var 1) (.int 1))) (.cons (.bin .Mult (.idx (.var 0) (.int 1)) (.idx (.var 1) (.int 0))) .nil)))) .nil)
def F_divided (i_reduced : Nat) : Fn := ⟨2, 2, [], t_divided i_reduced⟩
def t_sum_of (i_added g_NOUGHT : Nat) : Ss := (.cons (.asg (.nm 1) (.glb g_NOUGHT)) (.cons (.for (.nm 2) (.seq (.var 0)) (.cons (.asg (.nm 1) (.call i_added (.cons (.var 1) (.cons (.var 2) .nil)))) .nil)) (.cons (.ret (.var 1)) .nil)))
def F_sum_of (i_added g_NOUGHT : Nat) : Fn := ⟨1, 3, [], t_sum_of i_added g_NOUGHT⟩
def t_is_plain_row (i_is_number : Nat) : Ss := (.cons (.ret (.bop .And (.cons (.isi (.var 1) .tuple) (.cons (.cmp .Eq (.bi1 .len (.var 1)) (.var 0)) (.cons (.bi1 .all (.lc (.call i_is_number (.cons (.var 2) .nil)) (.nm 2) (.seq (.var 1)) .no 0)) .nil))))) .nil)
def F_is_plain_row (i_is_number : Nat) : Fn := ⟨2, 3, [], t_is_plain_row i_is_number⟩
def t_rest_row (g_NOUGHT : Nat) : Ss := (.cons (.ret (.bin .Mult (.tup (.cons (.glb g_NOUGHT) .nil)) (.var 0))) .nil)
def F_rest_row (g_NOUGHT : Nat) : Fn := ⟨1, 1, [], t_rest_row g_NOUGHT⟩
def t_unit_row (g_ONE g_NOUGHT : Nat) : Ss := (.cons (.ret (.bi1 .tuple (.lc (.ife (.cmp .Eq (.var 2) (.var 1)) (.glb g_ONE) (.glb g_NOUGHT)) (.nm 2) (.rng1 (.var 0)) .no 0))) .nil)
def F_unit_row (g_ONE g_NOUGHT : Nat) : Fn := ⟨2, 3, [], t_unit_row g_ONE g_NOUGHT⟩
def t_sum_of_rows (i_added : Nat) : Ss := (.cons (.ret (.bi1 .tuple (.lc (.call i_added (.cons (.var 2) (.cons (.var 3) .nil))) (.tp (.cons (.nm 2) (.cons (.nm 3) .nil))) (.zip (.var 0) (.var 1)) .no 0))) .nil)
def F_sum_of_rows (i_added : Nat) : Fn := ⟨2, 4, [], t_sum_of_rows i_added⟩
def t_times_row (i_multiplied g_NOUGHT : Nat) : Ss := (.cons (.ret (.bi1 .tuple (.lc (.ife (.cmp .NotEq (.var 2) (.glb g_NOUGHT)) (.call i_multiplied (.cons (.var 0) (.cons (.var 2) .nil))) (.glb g_NOUGHT)) (.nm 2) (.seq (.var 1)) .no 0))) .nil)
def F_times_row (i_multiplied g_NOUGHT : Nat) : Fn := ⟨2, 3, [], t_times_row i_multiplied g_NOUGHT⟩
def t_product_of (i_added i_multiplied g_NOUGHT : Nat) : Ss := (.cons (.asg (.nm 2) (.glb g_NOUGHT)) (.cons (.for (.tp (.cons (.nm 3) (.cons (.nm 4) .nil))) (.zip (.var 0) (.var 1)) (.cons (.ife (.bop .And (.cons (.cmp .NotEq (.var 3) (.glb g_NOUGHT)) (.cons (.cmp .NotEq (.var 4) (.glb g_NOUGHT)) .nil))) (.cons (.asg (.nm 2) (.call i_added (.cons (.var 2) (.cons (.call i_multiplied (.cons (.var 3) (.cons (.var 4) .nil))) .nil)))) .nil) .nil) .nil)) (.cons (.ret (.var 2)) .nil)))
def F_product_of (i_added i_multiplied g_NOUGHT : Nat) : Fn := ⟨2, 5, [], t_product_of i_added i_multiplied g_NOUGHT⟩
def t_led_told (i_rest_row i_sum_of_rows i_times_row g_NOUGHT : Nat) : Ss := (.cons (.asg (.nm 3) (.call i_rest_row (.cons (.var 0) .nil))) (.cons (.for (.tp (.cons (.nm 4) (.cons (.nm 5) .nil))) (.zip (.var 2) (.var 1)) (.cons (.ife (.cmp .NotEq (.var 4) (.glb g_NOUGHT)) (.cons (.asg (.nm 3) (.call i_sum_of_rows (.cons (.var 3) (.cons (.call i_times_row (.cons (.var 4) (.cons (.var 5) .nil))) .nil)))) .nil) .nil) .nil)) (.cons (.ret (.var 3)) .nil)))
def F_led_told (i_rest_row i_sum_of_rows i_times_row g_NOUGHT : Nat) : Fn := ⟨3, 6, [], t_led_told i_rest_row i_sum_of_rows i_times_row g_NOUGHT⟩
def t_are_from_nought : Ss := (.cons (.ret (.bi1 .all (.lc (.cmp .GtE (.idx (.var 1) (.int 0)) (.int 0)) (.nm 1) (.seq (.var 0)) .no 0))) .nil)
def F_are_from_nought : Fn := ⟨1, 2, [], t_are_from_nought⟩
def t_is_plain_mix (i_is_plain_row i_are_from_nought : Nat) : Ss := (.cons (.ret (.bop .And (.cons (.call i_is_plain_row (.cons (.var 0) (.cons (.var 1) .nil))) (.cons (.call i_are_from_nought (.cons (.var 1) .nil)) .nil)))) .nil)
def F_is_plain_mix (i_is_plain_row i_are_from_nought : Nat) : Fn := ⟨2, 2, [], t_is_plain_mix i_is_plain_row i_are_from_nought⟩
def t_require_width (i_require_count g_MAX_WIDTH : Nat) : Ss := (.cons (.expr (.call i_require_count (.cons (.var 0) (.cons (.int 1) (.cons (.glb g_MAX_WIDTH) .nil))))) .nil)
def F_require_width (i_require_count g_MAX_WIDTH : Nat) : Fn := ⟨1, 1, [], t_require_width i_require_count g_MAX_WIDTH⟩
def t_is_plain_chances (i_is_plain_mix i_sum_of g_ONE : Nat) : Ss := (.cons (.ret (.bop .And (.cons (.call i_is_plain_mix (.cons (.var 0) (.cons (.var 1) .nil))) (.cons (.cmp .Eq (.call i_sum_of (.cons (.var 1) .nil)) (.glb g_ONE)) .nil)))) .nil)
def F_is_plain_chances (i_is_plain_mix i_sum_of g_ONE : Nat) : Fn := ⟨2, 2, [], t_is_plain_chances i_is_plain_mix i_sum_of g_ONE⟩
def t_are_chance_rows (i_is_plain_chances : Nat) : Ss := (.cons (.ife (.bop .Or (.cons (.not (.isi (.var 2) .tuple)) (.cons (.cmp .NotEq (.bi1 .len (.var 2)) (.var 0)) .nil))) (.cons (.ret (.bl false)) .nil) .nil) (.cons (.ret (.bi1 .all (.lc (.call i_is_plain_chances (.cons (.var 1) (.cons (.var 3) .nil))) (.nm 3) (.seq (.var 2)) .no 0))) .nil))
def F_are_chance_rows (i_is_plain_chances : Nat) : Fn := ⟨3, 4, [], t_are_chance_rows i_is_plain_chances⟩
def t_require_chances (i_is_plain_chances : Nat) : Ss := (.cons (.ife (.not (.call i_is_plain_chances (.cons (.var 0) (.cons (.var 1) .nil)))) (.cons (.hole 0) .nil) .nil) .nil)
def F_require_chances (i_is_plain_chances : Nat) : Fn := ⟨2, 2, [], t_require_chances i_is_plain_chances⟩
def t_require_chance_table (i_are_chance_rows : Nat) : Ss := (.cons (.ife (.not (.call i_are_chance_rows (.cons (.var 0) (.cons (.var 1) (.cons (.var 2) .nil))))) (.cons (.hole 0) .nil) .nil) .nil)
def F_require_chance_table (i_are_chance_rows : Nat) : Fn := ⟨3, 3, [], t_require_chance_table i_are_chance_rows⟩
def t_require_line (i_is_plain_row : Nat) : Ss := (.cons (.ife (.not (.call i_is_plain_row (.cons (.var 0) (.cons (.var 1) .nil)))) (.cons (.hole 0) .nil) .nil) .nil)
def F_require_line (i_is_plain_row : Nat) : Fn := ⟨2, 2, [], t_require_line i_is_plain_row⟩
def t_require_share (i_is_number : Nat) : Ss := (.cons (.ife (.bop .Or (.cons (.not (.call i_is_number (.cons (.var 0) .nil))) (.cons (.not (.chn .LtE .LtE (.int 0) (.idx (.var 0) (.int 0)) (.idx (.var 0) (.int 1)))) .nil))) (.cons (.hole 0) .nil) .nil) .nil)
def F_require_share (i_is_number : Nat) : Fn := ⟨1, 1, [], t_require_share i_is_number⟩
def t_behind_by (i_led_told : Nat) : Ss := (.cons (.ret (.call i_led_told (.cons (.bi1 .len (.idx (.var 0) (.int 0))) (.cons (.var 0) (.cons (.var 1) .nil))))) .nil)
def F_behind_by (i_led_told : Nat) : Fn := ⟨2, 2, [], t_behind_by i_led_told⟩
def t_between_by (i_sum_of_rows i_times_row i_added i_opposite g_ONE : Nat) : Ss := (.cons (.ret (.call i_sum_of_rows (.cons (.call i_times_row (.cons (.var 0) (.cons (.var 1) .nil))) (.cons (.call i_times_row (.cons (.call i_added (.cons (.glb g_ONE) (.cons (.call i_opposite (.cons (.var 0) .nil)) .nil))) (.cons (.var 2) .nil))) .nil)))) .nil)
def F_between_by (i_sum_of_rows i_times_row i_added i_opposite g_ONE : Nat) : Fn := ⟨3, 3, [], t_between_by i_sum_of_rows i_times_row i_added i_opposite g_ONE⟩
def t_weighed_by (i_times_row i_divided i_sum_of g_ONE : Nat) : Ss := (.cons (.ret (.call i_times_row (.cons (.call i_divided (.cons (.glb g_ONE) (.cons (.call i_sum_of (.cons (.var 0) .nil)) .nil))) (.cons (.var 0) .nil)))) .nil)
def F_weighed_by (i_times_row i_divided i_sum_of g_ONE : Nat) : Fn := ⟨1, 1, [], t_weighed_by i_times_row i_divided i_sum_of g_ONE⟩
def t_is_chances (i_require_width i_is_plain_chances : Nat) : Ss := (.cons (.expr (.call i_require_width (.cons (.var 0) .nil))) (.cons (.ret (.call i_is_plain_chances (.cons (.var 0) (.cons (.var 1) .nil)))) .nil))
def F_is_chances (i_require_width i_is_plain_chances : Nat) : Fn := ⟨2, 2, [], t_is_chances i_require_width i_is_plain_chances⟩
def t_is_chance_table (i_require_width i_are_chance_rows : Nat) : Ss := (.cons (.expr (.call i_require_width (.cons (.var 0) .nil))) (.cons (.expr (.call i_require_width (.cons (.var 1) .nil))) (.cons (.ret (.call i_are_chance_rows (.cons (.var 0) (.cons (.var 1) (.cons (.var 2) .nil))))) .nil)))
def F_is_chance_table (i_require_width i_are_chance_rows : Nat) : Fn := ⟨3, 3, [], t_is_chance_table i_require_width i_are_chance_rows⟩
def t_sure_chances (i_require_width i_is_integer i_unit_row : Nat) : Ss := (.cons (.expr (.call i_require_width (.cons (.var 0) .nil))) (.cons (.ife (.bop .Or (.cons (.not (.call i_is_integer (.cons (.var 1) .nil))) (.cons (.not (.chn .LtE .Lt (.int 0) (.var 1) (.var 0))) .nil))) (.cons (.hole 0) .nil) .nil) (.cons (.ret (.call i_unit_row (.cons (.var 0) (.cons (.var 1) .nil)))) .nil)))
def F_sure_chances (i_require_width i_is_integer i_unit_row : Nat) : Fn := ⟨2, 2, [], t_sure_chances i_require_width i_is_integer i_unit_row⟩
def t_even_by : Ss := (.cons (.ret (.bin .Mult (.tup (.cons (.tup (.cons (.int 1) (.cons (.var 0) .nil))) .nil)) (.var 0))) .nil)
def F_even_by : Fn := ⟨1, 1, [], t_even_by⟩
def t_even_chances (i_require_width i_even_by : Nat) : Ss := (.cons (.expr (.call i_require_width (.cons (.var 0) .nil))) (.cons (.ret (.call i_even_by (.cons (.var 0) .nil))) .nil))
def F_even_chances (i_require_width i_even_by : Nat) : Fn := ⟨1, 1, [], t_even_chances i_require_width i_even_by⟩
def t_between (i_require_width i_require_share i_require_chances i_between_by : Nat) : Ss := (.cons (.expr (.call i_require_width (.cons (.var 0) .nil))) (.cons (.expr (.call i_require_share (.cons (.var 1) .nil))) (.cons (.expr (.call i_require_chances (.cons (.var 0) (.cons (.var 2) .nil)))) (.cons (.expr (.call i_require_chances (.cons (.var 0) (.cons (.var 3) .nil)))) (.cons (.ret (.call i_between_by (.cons (.var 1) (.cons (.var 2) (.cons (.var 3) .nil))))) .nil)))))
def F_between (i_require_width i_require_share i_require_chances i_between_by : Nat) : Fn := ⟨4, 4, [], t_between i_require_width i_require_share i_require_chances i_between_by⟩
def t_spots (i_require_width i_require_chances : Nat) : Ss := (.cons (.expr (.call i_require_width (.cons (.var 0) .nil))) (.cons (.expr (.call i_require_chances (.cons (.var 0) (.cons (.var 1) .nil)))) (.cons (.ret (.bi1 .tuple (.lc (.var 2) (.tp (.cons (.nm 2) (.cons (.nm 3) .nil))) (.enum (.var 1)) (.so (.cmp .Gt (.idx (.var 3) (.int 0)) (.int 0))) 0))) .nil)))
def F_spots (i_require_width i_require_chances : Nat) : Fn := ⟨2, 4, [], t_spots i_require_width i_require_chances⟩
def t_mean (i_require_width i_require_chances i_require_line i_product_of : Nat) : Ss := (.cons (.expr (.call i_require_width (.cons (.var 0) .nil))) (.cons (.expr (.call i_require_chances (.cons (.var 0) (.cons (.var 1) .nil)))) (.cons (.expr (.call i_require_line (.cons (.var 0) (.cons (.var 2) .nil)))) (.cons (.ret (.call i_product_of (.cons (.var 1) (.cons (.var 2) .nil)))) .nil))))
def F_mean (i_require_width i_require_chances i_require_line i_product_of : Nat) : Fn := ⟨3, 3, [], t_mean i_require_width i_require_chances i_require_line i_product_of⟩
def t_behind_table (i_require_width i_require_chance_table i_require_chances i_behind_by : Nat) : Ss := (.cons (.expr (.call i_require_width (.cons (.var 0) .nil))) (.cons (.expr (.call i_require_width (.cons (.var 1) .nil))) (.cons (.expr (.call i_require_chance_table (.cons (.var 0) (.cons (.var 1) (.cons (.var 2) .nil))))) (.cons (.expr (.call i_require_chances (.cons (.var 0) (.cons (.var 3) .nil)))) (.cons (.ret (.call i_behind_by (.cons (.var 2) (.cons (.var 3) .nil)))) .nil)))))
def F_behind_table (i_require_width i_require_chance_table i_require_chances i_behind_by : Nat) : Fn := ⟨4, 4, [], t_behind_table i_require_width i_require_chance_table i_require_chances i_behind_by⟩
def t_table_behind (i_require_width i_require_chance_table i_behind_by : Nat) : Ss := (.cons (.expr (.call i_require_width (.cons (.var 0) .nil))) (.cons (.expr (.call i_require_width (.cons (.var 1) .nil))) (.cons (.expr (.call i_require_width (.cons (.var 2) .nil))) (.cons (.expr (.call i_require_chance_table (.cons (.var 0) (.cons (.var 1) (.cons (.var 3) .nil))))) (.cons (.expr (.call i_require_chance_table (.cons (.var 1) (.cons (.var 2) (.cons (.var 4) .nil))))) (.cons (.ret (.bi1 .tuple (.lc (.call i_behind_by (.cons (.var 4) (.cons (.var 5) .nil))) (.nm 5) (.seq (.var 3)) .no 0))) .nil))))))
def F_table_behind (i_require_width i_require_chance_table i_behind_by : Nat) : Fn := ⟨5, 6, [], t_table_behind i_require_width i_require_chance_table i_behind_by⟩
def t_weighed (i_require_width i_is_plain_mix i_weighed_by : Nat) : Ss := (.cons (.expr (.call i_require_width (.cons (.var 0) .nil))) (.cons (.ife (.not (.call i_is_plain_mix (.cons (.var 0) (.cons (.var 1) .nil)))) (.cons (.hole 0) .nil) .nil) (.cons (.ife (.bi1 .all (.lc (.cmp .Eq (.idx (.var 2) (.int 0)) (.int 0)) (.nm 2) (.seq (.var 1)) .no 0)) (.cons (.hole 1) .nil) .nil) (.cons (.ret (.call i_weighed_by (.cons (.var 1) .nil))) .nil))))
def F_weighed (i_require_width i_is_plain_mix i_weighed_by : Nat) : Fn := ⟨2, 3, [], t_weighed i_require_width i_is_plain_mix i_weighed_by⟩
def t_law_dice : Ss := (.cons (.asg (.nm 2) (.ife (.cmp .Lt (.var 1) (.bi1 .len (.var 0))) (.bi1 .int (.idx (.var 0) (.var 1))) (.bin .Add (.bin .Mult (.int 173) (.var 1)) (.int 59)))) (.cons (.asg (.nm 3) (.bin .Mod (.bi1 .abs (.var 2)) (.bin .Pow (.bin .Pow (.int 10) (.int 47)) (.int 7)))) (.cons (.asg (.nm 4) (.bin .Add (.bin .Add (.bin .Add (.bin .Mult (.bin .Mod (.var 3) (.int 2305843009213693669)) (.int 89)) (.bin .Mult (.int 733) (.var 1))) (.bin .Mult (.int 43) (.bi1 .int (.cmp .Lt (.var 2) (.int 0))))) (.int 29))) (.cons (.ret (.lst (.cons (.bi2 .max (.int 0) (.bin .Sub (.var 3) (.bin .Pow (.int 10) (.int 15)))) (.cons (.var 4) (.cons (.int 0) .nil))))) .nil))))
def F_law_dice : Fn := ⟨2, 5, [], t_law_dice⟩
def t_law_roll : Ss := (.cons (.ife (.cmp .Gt (.idx (.var 0) (.int 0)) (.int 0)) (.cons (.asg (.tp (.cons (.sb (.var 0) (.int 0)) (.cons (.nm 4) .nil))) (.bi2 .divmod (.idx (.var 0) (.int 0)) (.var 1))) (.cons (.ret (.bi1 .int (.var 4))) .nil)) .nil) (.cons (.asg (.sb (.var 0) (.int 2)) (.bin .Add (.idx (.var 0) (.int 2)) (.int 1))) (.cons (.asg (.nm 2) (.bin .Mod (.bin .Add (.idx (.var 0) (.int 1)) (.bin .Mult (.int 67867967) (.idx (.var 0) (.int 2)))) (.int 2305843009213693613))) (.cons (.asg (.nm 3) (.bin .Add (.bin .Mult (.bin .Mod (.bin .Add (.bin .Mult (.var 2) (.var 2)) (.bin .Mult (.int 211) (.idx (.var 0) (.int 2)))) (.int 2305843009213693487)) (.int 49979693)) (.var 2))) (.cons (.ret (.bin .Mod (.bi1 .int (.bin .FloorDiv (.var 3) (.int 70001))) (.var 1))) .nil)))))
def F_law_roll : Fn := ⟨2, 5, [], t_law_roll⟩
def t_law_pick (i_law_roll : Nat) : Ss := (.cons (.ret (.idx (.var 1) (.call i_law_roll (.cons (.var 0) (.cons (.bi1 .len (.var 1)) .nil))))) .nil)
def F_law_pick (i_law_roll : Nat) : Fn := ⟨2, 2, [], t_law_pick i_law_roll⟩
def t_law_fr : Ss := (.cons (.par2 3 4 (.bi1 .abs (.var 1)) (.bi1 .abs (.var 0))) (.cons (.whl (.cmp .Gt (.var 4) (.int 0)) (.cons (.par2 3 4 (.var 4) (.bin .Mod (.var 3) (.var 4))) .nil)) (.cons (.asg (.nm 2) (.ife (.cmp .Gt (.var 1) (.int 0)) (.int 1) (.neg (.int 1)))) (.cons (.ret (.tup (.cons (.bin .FloorDiv (.bin .Mult (.var 2) (.var 0)) (.var 3)) (.cons (.bin .FloorDiv (.bin .Mult (.var 2) (.var 1)) (.var 3)) .nil)))) .nil))))
def F_law_fr : Fn := ⟨2, 5, [], t_law_fr⟩
def t_law_plus (i_law_fr : Nat) : Ss := (.cons (.ret (.call i_law_fr (.cons (.bin .Add (.bin .Mult (.idx (.var 0) (.int 0)) (.idx (.var 1) (.int 1))) (.bin .Mult (.idx (.var 1) (.int 0)) (.idx (.var 0) (.int 1)))) (.cons (.bin .Mult (.idx (.var 1) (.int 1)) (.idx (.var 0) (.int 1))) .nil)))) .nil)
def F_law_plus (i_law_fr : Nat) : Fn := ⟨2, 2, [], t_law_plus i_law_fr⟩
def t_law_minus (i_law_fr : Nat) : Ss := (.cons (.ret (.call i_law_fr (.cons (.bin .Sub (.bin .Mult (.idx (.var 0) (.int 0)) (.idx (.var 1) (.int 1))) (.bin .Mult (.idx (.var 1) (.int 0)) (.idx (.var 0) (.int 1)))) (.cons (.bin .Mult (.idx (.var 1) (.int 1)) (.idx (.var 0) (.int 1))) .nil)))) .nil)
def F_law_minus (i_law_fr : Nat) : Fn := ⟨2, 2, [], t_law_minus i_law_fr⟩
def t_law_times (i_law_fr : Nat) : Ss := (.cons (.ret (.call i_law_fr (.cons (.bin .Mult (.idx (.var 1) (.int 0)) (.idx (.var 0) (.int 0))) (.cons (.bin .Mult (.idx (.var 1) (.int 1)) (.idx (.var 0) (.int 1))) .nil)))) .nil)
def F_law_times (i_law_fr : Nat) : Fn := ⟨2, 2, [], t_law_times i_law_fr⟩
def t_law_is_under : Ss := (.cons (.ret (.cmp .Lt (.bin .Mult (.idx (.var 0) (.int 0)) (.idx (.var 1) (.int 1))) (.bin .Mult (.idx (.var 1) (.int 0)) (.idx (.var 0) (.int 1))))) .nil)
def F_law_is_under : Fn := ⟨2, 2, [], t_law_is_under⟩
def t_law_dot (i_law_plus i_law_times : Nat) : Ss := (.cons (.asg (.nm 2) (.tup (.cons (.int 0) (.cons (.int 1) .nil)))) (.cons (.for (.tp (.cons (.nm 3) (.cons (.nm 4) .nil))) (.zip (.var 0) (.var 1)) (.cons (.ife (.cmp .NotIn (.int 0) (.tup (.cons (.idx (.var 3) (.int 0)) (.cons (.idx (.var 4) (.int 0)) .nil)))) (.cons (.asg (.nm 2) (.call i_law_plus (.cons (.var 2) (.cons (.call i_law_times (.cons (.var 3) (.cons (.var 4) .nil))) .nil)))) .nil) .nil) .nil)) (.cons (.ret (.var 2)) .nil)))
def F_law_dot (i_law_plus i_law_times : Nat) : Fn := ⟨2, 5, [], t_law_dot i_law_plus i_law_times⟩
def t_law_is_number (i_law_fr : Nat) : Ss := (.cons (.ife (.bop .Or (.cons (.not (.isi (.var 0) .tuple)) (.cons (.cmp .NotEq (.bi1 .len (.var 0)) (.int 2)) .nil))) (.cons (.ret (.bl false)) .nil) .nil) (.cons (.for (.nm 1) (.seq (.var 0)) (.cons (.ife (.bop .Or (.cons (.not (.isi (.var 1) .int)) (.cons (.isi (.var 1) .bool) .nil))) (.cons (.ret (.bl false)) .nil) .nil) .nil)) (.cons (.ret (.bop .And (.cons (.cmp .Gt (.idx (.var 0) (.int 1)) (.int 0)) (.cons (.cmp .Eq (.call i_law_fr (.cons (.idx (.var 0) (.int 0)) (.cons (.idx (.var 0) (.int 1)) .nil))) (.var 0)) .nil)))) .nil)))
def F_law_is_number (i_law_fr : Nat) : Fn := ⟨1, 2, [], t_law_is_number i_law_fr⟩
def t_law_is_row (i_law_is_number : Nat) : Ss := (.cons (.ife (.bop .Or (.cons (.not (.isi (.var 1) .tuple)) (.cons (.cmp .NotEq (.bi1 .len (.var 1)) (.var 0)) .nil))) (.cons (.ret (.bl false)) .nil) .nil) (.cons (.ret (.cmp .Eq (.lc (.var 2) (.nm 2) (.seq (.var 1)) (.so (.not (.call i_law_is_number (.cons (.var 2) .nil)))) 0) (.lst .nil))) .nil))
def F_law_is_row (i_law_is_number : Nat) : Fn := ⟨2, 3, [], t_law_is_row i_law_is_number⟩
def t_law_sum_of (i_law_plus : Nat) : Ss := (.cons (.ret (.bi1 .tuple (.lc (.call i_law_plus (.cons (.var 2) (.cons (.var 3) .nil))) (.tp (.cons (.nm 2) (.cons (.nm 3) .nil))) (.zip (.var 0) (.var 1)) .no 0))) .nil)
def F_law_sum_of (i_law_plus : Nat) : Fn := ⟨2, 4, [], t_law_sum_of i_law_plus⟩
def t_law_by (i_law_times : Nat) : Ss := (.cons (.ret (.bi1 .tuple (.lc (.call i_law_times (.cons (.var 0) (.cons (.var 2) .nil))) (.nm 2) (.seq (.var 1)) .no 0))) .nil)
def F_law_by (i_law_times : Nat) : Fn := ⟨2, 3, [], t_law_by i_law_times⟩
def t_law_sr_unit : Ss := (.cons (.ret (.bi1 .tuple (.lc (.tup (.cons (.bi1 .int (.cmp .Eq (.var 2) (.var 1))) (.cons (.int 1) .nil))) (.nm 2) (.rng1 (.var 0)) .no 0))) .nil)
def F_law_sr_unit : Fn := ⟨2, 3, [], t_law_sr_unit⟩
def t_law_sr_number (i_law_fr i_law_roll i_law_pick : Nat) : Ss := (.cons (.ret (.call i_law_fr (.cons (.bin .Sub (.call i_law_roll (.cons (.var 0) (.cons (.int 13) .nil))) (.int 6)) (.cons (.call i_law_pick (.cons (.var 0) (.cons (.lst (.cons (.int 1) (.cons (.int 1) (.cons (.int 2) (.cons (.int 3) .nil))))) .nil))) .nil)))) .nil)
def F_law_sr_number (i_law_fr i_law_roll i_law_pick : Nat) : Fn := ⟨1, 1, [], t_law_sr_number i_law_fr i_law_roll i_law_pick⟩
def t_law_sr_row (i_law_sr_number : Nat) : Ss := (.cons (.ret (.bi1 .tuple (.lc (.call i_law_sr_number (.cons (.var 0) .nil)) (.nm 2) (.rng1 (.var 1)) .no 0))) .nil)
def F_law_sr_row (i_law_sr_number : Nat) : Fn := ⟨2, 3, [], t_law_sr_row i_law_sr_number⟩
def t_law_sr_chances (i_law_roll i_law_fr : Nat) : Ss := (.cons (.asg (.nm 2) (.lc (.call i_law_roll (.cons (.var 0) (.cons (.int 4) .nil))) (.nm 6) (.rng1 (.var 1)) .no 0)) (.cons (.asg (.tp (.cons (.nm 4) (.cons (.nm 5) .nil))) (.tup (.cons (.call i_law_roll (.cons (.var 0) (.cons (.var 1) .nil))) (.cons (.int 0) .nil)))) (.cons (.asg (.sb (.var 2) (.var 4)) (.bin .Add (.idx (.var 2) (.var 4)) (.int 1))) (.cons (.for (.nm 3) (.seq (.var 2)) (.cons (.asg (.nm 5) (.bin .Add (.var 5) (.var 3))) .nil)) (.cons (.ret (.bi1 .tuple (.lc (.call i_law_fr (.cons (.var 3) (.cons (.var 5) .nil))) (.nm 3) (.seq (.var 2)) .no 1))) .nil)))))
def F_law_sr_chances (i_law_roll i_law_fr : Nat) : Fn := ⟨2, 7, [], t_law_sr_chances i_law_roll i_law_fr⟩
def t_law_sr_is_chances (i_law_is_row i_law_plus : Nat) : Ss := (.cons (.ife (.bop .Or (.cons (.not (.call i_law_is_row (.cons (.var 0) (.cons (.var 1) .nil)))) (.cons (.cmp .NotEq (.lc (.int 1) (.nm 3) (.seq (.var 1)) (.so (.cmp .Lt (.idx (.var 3) (.int 0)) (.int 0))) 0) (.lst .nil)) .nil))) (.cons (.ret (.bl false)) .nil) .nil) (.cons (.asg (.nm 2) (.tup (.cons (.int 0) (.cons (.int 1) .nil)))) (.cons (.for (.nm 3) (.seq (.var 1)) (.cons (.asg (.nm 2) (.call i_law_plus (.cons (.var 2) (.cons (.var 3) .nil)))) .nil)) (.cons (.ret (.cmp .Eq (.var 2) (.tup (.cons (.int 1) (.cons (.int 1) .nil))))) .nil))))
def F_law_sr_is_chances (i_law_is_row i_law_plus : Nat) : Fn := ⟨2, 4, [], t_law_sr_is_chances i_law_is_row i_law_plus⟩
def t_law_is_table (i_law_sr_is_chances : Nat) : Ss := (.cons (.ife (.bop .Or (.cons (.not (.isi (.var 2) .tuple)) (.cons (.cmp .NotEq (.bi1 .len (.var 2)) (.var 0)) .nil))) (.cons (.ret (.bl false)) .nil) .nil) (.cons (.ret (.cmp .Eq (.lc (.int 1) (.nm 3) (.seq (.var 2)) (.so (.not (.call i_law_sr_is_chances (.cons (.var 1) (.cons (.var 3) .nil))))) 0) (.lst .nil))) .nil))
def F_law_is_table (i_law_sr_is_chances : Nat) : Fn := ⟨3, 4, [], t_law_is_table i_law_sr_is_chances⟩
def t_law_near (i_law_roll i_law_plus i_law_minus i_law_times : Nat) : Ss := (.cons (.asg (.nm 2) (.call i_law_roll (.cons (.var 0) (.cons (.bi1 .len (.var 1)) .nil)))) (.cons (.asg (.nm 3) (.lst (.cons (.var 1) (.cons (.bi1 .list (.var 1)) (.cons (.slc (.var 1) (.so (.int 1)) .no) (.cons (.bin .Add (.var 1) (.tup (.cons (.tup (.cons (.int 0) (.cons (.int 1) .nil))) .nil))) (.cons .non (.cons (.tup .nil) (.cons (.int 0) (.cons .dct0 .nil)))))))))) (.cons (.asg (.nm 4) (.idx (.var 1) (.var 2))) (.cons (.for (.nm 5) (.seq (.tup (.cons (.tup (.cons (.int 0) (.cons (.int 1) .nil))) (.cons (.tup (.cons (.int 1) (.cons (.int 1) .nil))) (.cons (.call i_law_plus (.cons (.var 4) (.cons (.tup (.cons (.int 1) (.cons (.int 9) .nil))) .nil))) (.cons (.call i_law_minus (.cons (.var 4) (.cons (.tup (.cons (.int 1) (.cons (.int 1) .nil))) .nil))) (.cons (.tup (.cons (.int 2) (.cons (.int 2) .nil))) (.cons (.int 1) (.cons .non (.cons (.tup (.cons (.bl true) (.cons (.int 1) .nil))) (.cons (.tup (.cons (.int 1) (.cons (.int 0) .nil))) .nil))))))))))) (.cons (.expr (.met .append (.var 3) (.bin .Add (.bin .Add (.slc (.var 1) .no (.so (.var 2))) (.tup (.cons (.var 5) .nil))) (.slc (.var 1) (.so (.bin .Add (.var 2) (.int 1))) .no)))) .nil)) (.cons (.ife (.cmp .Gt (.bi1 .len (.var 1)) (.int 1)) (.cons (.asg (.nm 6) (.bin .Mod (.bin .Add (.var 2) (.int 1)) (.bi1 .len (.var 1)))) (.cons (.asg (.nm 7) (.bi1 .list (.var 1))) (.cons (.asg (.tp (.cons (.sb (.var 7) (.var 2)) (.cons (.sb (.var 7) (.var 6)) .nil))) (.tup (.cons (.call i_law_minus (.cons (.var 4) (.cons (.tup (.cons (.int 2) (.cons (.int 1) .nil))) .nil))) (.cons (.call i_law_plus (.cons (.idx (.var 1) (.var 6)) (.cons (.tup (.cons (.int 2) (.cons (.int 1) .nil))) .nil))) .nil)))) (.cons (.expr (.met .append (.var 3) (.bi1 .tuple (.var 7)))) .nil)))) .nil) (.cons (.ret (.bin .Add (.var 3) (.lst (.cons (.bi1 .tuple (.lc (.call i_law_times (.cons (.tup (.cons (.int 2) (.cons (.int 1) .nil))) (.cons (.var 4) .nil))) (.nm 4) (.seq (.var 1)) .no 0)) (.cons (.rev (.var 1)) (.cons (.str "chances") .nil)))))) .nil))))))
def F_law_near (i_law_roll i_law_plus i_law_minus i_law_times : Nat) : Fn := ⟨2, 8, [], t_law_near i_law_roll i_law_plus i_law_minus i_law_times⟩
def t_law_judged_right (i_law_near i_is_chances i_law_sr_is_chances i_law_roll i_is_chance_table i_law_is_table : Nat) : Ss := (.cons (.for (.nm 4) (.seq (.call i_law_near (.cons (.var 0) (.cons (.var 2) .nil)))) (.cons (.ife (.cmp .NotEq (.bi1 .repr (.call i_is_chances (.cons (.var 1) (.cons (.var 4) .nil)))) (.bi1 .repr (.call i_law_sr_is_chances (.cons (.var 1) (.cons (.var 4) .nil))))) (.cons (.ret (.bl false)) .nil) .nil) .nil)) (.cons (.par2 7 8 (.bi1 .len (.var 3)) (.call i_law_roll (.cons (.var 0) (.cons (.bi1 .len (.var 3)) .nil)))) (.cons (.asg (.nm 5) (.lst (.cons (.var 3) (.cons (.bi1 .list (.var 3)) (.cons (.slc (.var 3) (.so (.int 1)) .no) (.cons (.bin .Add (.var 3) (.slc (.var 3) .no (.so (.int 1)))) (.cons .non (.cons (.tup .nil) (.cons (.var 2) (.cons .dct0 (.cons (.bin .Mult (.tup (.cons (.var 2) .nil)) (.var 7)) .nil))))))))))) (.cons (.for (.nm 6) (.seq (.call i_law_near (.cons (.var 0) (.cons (.idx (.var 3) (.var 8)) .nil)))) (.cons (.expr (.met .append (.var 5) (.bin .Add (.bin .Add (.slc (.var 3) .no (.so (.var 8))) (.tup (.cons (.var 6) .nil))) (.slc (.var 3) (.so (.bin .Add (.var 8) (.int 1))) .no)))) .nil)) (.cons (.for (.nm 4) (.seq (.var 5)) (.cons (.ife (.cmp .NotEq (.bi1 .repr (.call i_is_chance_table (.cons (.var 7) (.cons (.var 1) (.cons (.var 4) .nil))))) (.bi1 .repr (.call i_law_is_table (.cons (.var 7) (.cons (.var 1) (.cons (.var 4) .nil)))))) (.cons (.ret (.bl false)) .nil) .nil) .nil)) (.cons (.ret (.bl true)) .nil))))))
def F_law_judged_right (i_law_near i_is_chances i_law_sr_is_chances i_law_roll i_is_chance_table i_law_is_table : Nat) : Fn := ⟨4, 9, [], t_law_judged_right i_law_near i_is_chances i_law_sr_is_chances i_law_roll i_is_chance_table i_law_is_table⟩
def t_law_between (i_law_sum_of i_law_by i_law_minus : Nat) : Ss := (.cons (.ret (.call i_law_sum_of (.cons (.call i_law_by (.cons (.var 0) (.cons (.var 1) .nil))) (.cons (.call i_law_by (.cons (.call i_law_minus (.cons (.tup (.cons (.int 1) (.cons (.int 1) .nil))) (.cons (.var 0) .nil))) (.cons (.var 2) .nil))) .nil)))) .nil)
def F_law_between (i_law_sum_of i_law_by i_law_minus : Nat) : Fn := ⟨3, 3, [], t_law_between i_law_sum_of i_law_by i_law_minus⟩
def t_law_lone_right (i_law_roll i_law_fr i_sure_chances i_law_sr_unit i_even_chances i_between i_law_between i_is_chances i_mean i_law_dot i_law_plus i_law_times i_law_minus i_law_by i_spots i_weighed i_law_is_under : Nat) : Ss := (.cons (.par2 11 12 (.call i_law_roll (.cons (.var 0) (.cons (.var 1) .nil))) (.call i_law_fr (.cons (.call i_law_roll (.cons (.var 0) (.cons (.int 8) .nil))) (.cons (.int 7) .nil)))) (.cons (.ife (.bop .Or (.cons (.cmp .NotEq (.call i_sure_chances (.cons (.var 1) (.cons (.var 11) .nil))) (.call i_law_sr_unit (.cons (.var 1) (.cons (.var 11) .nil)))) (.cons (.cmp .NotEq (.call i_even_chances (.cons (.var 1) .nil)) (.bin .Mult (.tup (.cons (.tup (.cons (.int 1) (.cons (.var 1) .nil))) .nil)) (.var 1))) .nil))) (.cons (.ret (.bl false)) .nil) .nil) (.cons (.asg (.nm 5) (.call i_between (.cons (.var 1) (.cons (.var 12) (.cons (.var 2) (.cons (.var 3) .nil)))))) (.cons (.ife (.bop .Or (.cons (.cmp .NotEq (.var 5) (.call i_law_between (.cons (.var 12) (.cons (.var 2) (.cons (.var 3) .nil))))) (.cons (.cmp .IsNot (.call i_is_chances (.cons (.var 1) (.cons (.var 5) .nil))) (.bl true)) .nil))) (.cons (.ret (.bl false)) .nil) .nil) (.cons (.ife (.bop .Or (.cons (.cmp .NotEq (.call i_mean (.cons (.var 1) (.cons (.var 2) (.cons (.var 4) .nil)))) (.call i_law_dot (.cons (.var 2) (.cons (.var 4) .nil)))) (.cons (.cmp .NotEq (.call i_mean (.cons (.var 1) (.cons (.call i_sure_chances (.cons (.var 1) (.cons (.var 11) .nil))) (.cons (.var 4) .nil)))) (.idx (.var 4) (.var 11))) .nil))) (.cons (.ret (.bl false)) .nil) .nil) (.cons (.asg (.nm 6) (.call i_law_plus (.cons (.call i_law_times (.cons (.var 12) (.cons (.call i_mean (.cons (.var 1) (.cons (.var 2) (.cons (.var 4) .nil)))) .nil))) (.cons (.call i_law_times (.cons (.call i_law_minus (.cons (.tup (.cons (.int 1) (.cons (.int 1) .nil))) (.cons (.var 12) .nil))) (.cons (.call i_mean (.cons (.var 1) (.cons (.var 3) (.cons (.var 4) .nil)))) .nil))) .nil)))) (.cons (.ife (.cmp .NotEq (.call i_mean (.cons (.var 1) (.cons (.var 5) (.cons (.var 4) .nil)))) (.var 6)) (.cons (.ret (.bl false)) .nil) .nil) (.cons (.asg (.nm 7) (.bi1 .tuple (.lc (.var 14) (.tp (.cons (.nm 14) (.cons (.nm 13) .nil))) (.enum (.var 2)) (.so (.cmp .Gt (.idx (.var 13) (.int 0)) (.int 0))) 0))) (.cons (.asg (.nm 8) (.call i_law_by (.cons (.call i_law_fr (.cons (.bin .Add (.int 1) (.call i_law_roll (.cons (.var 0) (.cons (.int 9) .nil)))) (.cons (.bin .Add (.int 1) (.call i_law_roll (.cons (.var 0) (.cons (.int 4) .nil)))) .nil))) (.cons (.var 2) .nil)))) (.cons (.ife (.bop .Or (.cons (.cmp .NotEq (.call i_spots (.cons (.var 1) (.cons (.var 2) .nil))) (.var 7)) (.cons (.cmp .NotEq (.call i_weighed (.cons (.var 1) (.cons (.var 8) .nil))) (.var 2)) .nil))) (.cons (.ret (.bl false)) .nil) .nil) (.cons (.asg (.nm 9) (.lc (.var 13) (.nm 13) (.seq (.var 4)) (.so (.call i_law_is_under (.cons (.call i_mean (.cons (.var 1) (.cons (.var 2) (.cons (.var 4) .nil)))) (.cons (.var 13) .nil)))) 1)) (.cons (.asg (.nm 10) (.lc (.var 13) (.nm 13) (.seq (.var 4)) (.so (.call i_law_is_under (.cons (.var 13) (.cons (.call i_mean (.cons (.var 1) (.cons (.var 2) (.cons (.var 4) .nil)))) .nil)))) 2)) (.cons (.ret (.bop .And (.cons (.cmp .Lt (.bi1 .len (.var 9)) (.var 1)) (.cons (.cmp .Lt (.bi1 .len (.var 10)) (.var 1)) .nil)))) .nil)))))))))))))
def F_law_lone_right (i_law_roll i_law_fr i_sure_chances i_law_sr_unit i_even_chances i_between i_law_between i_is_chances i_mean i_law_dot i_law_plus i_law_times i_law_minus i_law_by i_spots i_weighed i_law_is_under : Nat) : Fn := ⟨5, 15, [], t_law_lone_right i_law_roll i_law_fr i_sure_chances i_law_sr_unit i_even_chances i_between i_law_between i_is_chances i_mean i_law_dot i_law_plus i_law_times i_law_minus i_law_by i_spots i_weighed i_law_is_under⟩
def t_law_forth (i_law_sum_of i_law_by : Nat) : Ss := (.cons (.asg (.nm 3) (.bin .Mult (.tup (.cons (.tup (.cons (.int 0) (.cons (.int 1) .nil))) .nil)) (.var 0))) (.cons (.for (.tp (.cons (.nm 4) (.cons (.nm 5) .nil))) (.zip (.var 2) (.var 1)) (.cons (.asg (.nm 3) (.call i_law_sum_of (.cons (.var 3) (.cons (.call i_law_by (.cons (.var 4) (.cons (.var 5) .nil))) .nil)))) .nil)) (.cons (.ret (.var 3)) .nil)))
def F_law_forth (i_law_sum_of i_law_by : Nat) : Fn := ⟨3, 6, [], t_law_forth i_law_sum_of i_law_by⟩
def t_law_tables_right (i_law_roll i_law_sr_chances i_law_fr i_behind_table i_law_forth i_is_chances i_law_between i_table_behind : Nat) : Ss := (.cons (.asg (.tp (.cons (.nm 7) (.cons (.nm 8) .nil))) (.tup (.cons (.bin .Add (.int 1) (.call i_law_roll (.cons (.var 0) (.cons (.int 4) .nil)))) (.cons (.bin .Add (.int 1) (.call i_law_roll (.cons (.var 0) (.cons (.int 4) .nil)))) .nil)))) (.cons (.asg (.nm 2) (.bi1 .tuple (.lc (.call i_law_sr_chances (.cons (.var 0) (.cons (.var 8) .nil))) (.nm 12) (.rng1 (.var 7)) .no 0))) (.cons (.asg (.nm 3) (.bi1 .tuple (.lc (.call i_law_sr_chances (.cons (.var 0) (.cons (.var 1) .nil))) (.nm 12) (.rng1 (.var 8)) .no 1))) (.cons (.par3 9 10 11 (.call i_law_sr_chances (.cons (.var 0) (.cons (.var 7) .nil))) (.call i_law_sr_chances (.cons (.var 0) (.cons (.var 7) .nil))) (.call i_law_fr (.cons (.call i_law_roll (.cons (.var 0) (.cons (.int 6) .nil))) (.cons (.int 5) .nil)))) (.cons (.asg (.nm 4) (.call i_behind_table (.cons (.var 7) (.cons (.var 8) (.cons (.var 2) (.cons (.var 9) .nil)))))) (.cons (.ife (.bop .Or (.cons (.cmp .NotEq (.var 4) (.call i_law_forth (.cons (.var 8) (.cons (.var 2) (.cons (.var 9) .nil))))) (.cons (.cmp .IsNot (.call i_is_chances (.cons (.var 8) (.cons (.var 4) .nil))) (.bl true)) .nil))) (.cons (.ret (.bl false)) .nil) .nil) (.cons (.asg (.nm 5) (.call i_behind_table (.cons (.var 7) (.cons (.var 8) (.cons (.var 2) (.cons (.var 10) .nil)))))) (.cons (.ife (.cmp .NotEq (.call i_behind_table (.cons (.var 7) (.cons (.var 8) (.cons (.var 2) (.cons (.call i_law_between (.cons (.var 11) (.cons (.var 9) (.cons (.var 10) .nil)))) .nil))))) (.call i_law_between (.cons (.var 11) (.cons (.var 4) (.cons (.var 5) .nil))))) (.cons (.ret (.bl false)) .nil) .nil) (.cons (.asg (.nm 6) (.call i_table_behind (.cons (.var 7) (.cons (.var 8) (.cons (.var 1) (.cons (.var 2) (.cons (.var 3) .nil))))))) (.cons (.ife (.cmp .NotEq (.var 6) (.bi1 .tuple (.lc (.call i_law_forth (.cons (.var 1) (.cons (.var 3) (.cons (.var 13) .nil)))) (.nm 13) (.seq (.var 2)) .no 2))) (.cons (.ret (.bl false)) .nil) .nil) (.cons (.ret (.cmp .Eq (.call i_behind_table (.cons (.var 7) (.cons (.var 1) (.cons (.var 6) (.cons (.var 9) .nil))))) (.call i_behind_table (.cons (.var 8) (.cons (.var 1) (.cons (.var 3) (.cons (.var 4) .nil))))))) .nil)))))))))))
def F_law_tables_right (i_law_roll i_law_sr_chances i_law_fr i_behind_table i_law_forth i_is_chances i_law_between i_table_behind : Nat) : Fn := ⟨2, 14, [], t_law_tables_right i_law_roll i_law_sr_chances i_law_fr i_behind_table i_law_forth i_is_chances i_law_between i_table_behind⟩
def t_law_right (i_law_roll i_law_sr_chances i_law_sr_row i_law_judged_right i_law_tables_right i_law_lone_right : Nat) : Ss := (.cons (.asg (.nm 1) (.bin .Add (.int 1) (.call i_law_roll (.cons (.var 0) (.cons (.int 4) .nil))))) (.cons (.par3 3 4 5 (.call i_law_sr_chances (.cons (.var 0) (.cons (.var 1) .nil))) (.call i_law_sr_chances (.cons (.var 0) (.cons (.var 1) .nil))) (.call i_law_sr_row (.cons (.var 0) (.cons (.var 1) .nil)))) (.cons (.asg (.nm 2) (.bi1 .tuple (.lc (.call i_law_sr_chances (.cons (.var 0) (.cons (.var 1) .nil))) (.nm 6) (.rng1 (.bin .Add (.int 1) (.call i_law_roll (.cons (.var 0) (.cons (.int 4) .nil))))) .no 0))) (.cons (.ife (.bop .Or (.cons (.not (.call i_law_judged_right (.cons (.var 0) (.cons (.var 1) (.cons (.var 3) (.cons (.var 2) .nil)))))) (.cons (.not (.call i_law_tables_right (.cons (.var 0) (.cons (.var 1) .nil)))) .nil))) (.cons (.ret (.bl false)) .nil) .nil) (.cons (.ret (.call i_law_lone_right (.cons (.var 0) (.cons (.var 1) (.cons (.var 3) (.cons (.var 4) (.cons (.var 5) .nil))))))) .nil)))))
def F_law_right (i_law_roll i_law_sr_chances i_law_sr_row i_law_judged_right i_law_tables_right i_law_lone_right : Nat) : Fn := ⟨1, 7, [], t_law_right i_law_roll i_law_sr_chances i_law_sr_row i_law_judged_right i_law_tables_right i_law_lone_right⟩
def t_law (i_law_dice i_law_right i_spots i_even_chances : Nat) : Ss := (.cons (.for (.nm 1) (.rng1 (.bi2 .max (.int 1) (.bi2 .min (.int 5) (.bi1 .len (.var 0))))) (.cons (.asg (.nm 2) (.call i_law_dice (.cons (.var 0) (.cons (.var 1) .nil)))) (.cons (.for (.nm 3) (.rng1 (.int 4)) (.cons (.ife (.not (.call i_law_right (.cons (.var 2) .nil))) (.cons (.ret (.bl false)) .nil) .nil) .nil)) .nil))) (.cons (.ret (.bop .And (.cons (.cmp .Eq (.call i_spots (.cons (.int 3) (.cons (.tup (.cons (.tup (.cons (.int 1) (.cons (.int 2) .nil))) (.cons (.tup (.cons (.int 0) (.cons (.int 1) .nil))) (.cons (.tup (.cons (.int 1) (.cons (.int 2) .nil))) .nil)))) .nil))) (.tup (.cons (.int 0) (.cons (.int 2) .nil)))) (.cons (.cmp .Eq (.call i_even_chances (.cons (.int 8) .nil)) (.bin .Mult (.tup (.cons (.tup (.cons (.int 1) (.cons (.int 8) .nil))) .nil)) (.int 8))) .nil)))) .nil))
def F_law (i_law_dice i_law_right i_spots i_even_chances : Nat) : Fn := ⟨1, 4, [], t_law i_law_dice i_law_right i_spots i_even_chances⟩
end Q
end
section
-- M6
set_option Elab.async false
set_option linter.all false
set_option maxRecDepth 100000
namespace Q
open PySem (Str Operator CmpOp BoolOp PyData Paired)
/-- a call that leaves the store as it is -/
structure Sp (C : Q.Ctx) (d i : Nat) (ds : List D) (r : R) : Prop where
  fill : Q.fill C i ds = some ds
  run : ∀ n S, evCall C (n + d) i ds S = .ok r S
section
variable {C : Q.Ctx} {call : Nat → List D → Store → Res R} {S : Store}
theorem Sp.by {d i : Nat} {F : Fn} {ds : List D} {r : R} (h : C.fns[i]? = some F) (hl : ds.length = F.np) (e : ∀ n S, evSs C (evCall C (n + d)) F.body (start F ds) S = .ok (.rt r) S) : Sp C (d + 1) i ds r := ⟨fill_of h hl, fun n S => ev_pure h hl (e n S)⟩
theorem Sp.up {d e i : Nat} {ds : List D} {r : R} (h : Sp C d i ds r) (z : d ≤ e) : Sp C e i ds r := ⟨h.fill, fun n S => by
  have := h.run (n + (e - d)) S
  rwa [show n + (e - d) + d = n + e by omega] at this⟩
theorem Sp.of {d i : Nat} {F : Fn} {ds : List D} {r : R} (h : C.fns[i]? = some F) (hl : ds.length = F.np) (e : ∀ n S, evCall C (n + d) i ds S = .ok r S) : Sp C d i ds r := ⟨fill_of h hl, e⟩
/-! ### comprehensions, loops -/
theorem overL_filter {α : Type} {f : α → D} {step : D → Store → Res (Option D)} {p : α → Bool} {g : α → D} : ∀ (l : List α) (acc : List D), (∀ a ∈ l, step (f a) S = .ok (if p a then some (g a) else none) S) → overL step (l.map f) acc S = .ok (acc ++ (l.filter p).map g) S
  | [], acc, h => by
    rw [List.map_nil, overL]
    simp
  | d :: r, acc, h => by
    rw [List.map_cons, overL, h d List.mem_cons_self]
    cases hp : p d with
    | true =>
      simp only [Res.bind_ok, if_true, List.filter_cons, hp, List.map_cons]
      rw [overL_filter r _ fun x hx => h x (List.mem_cons_of_mem _ hx), List.append_assoc]
      rfl
    | false =>
      simp only [Res.bind_ok, Bool.false_eq_true, if_false, List.filter_cons, hp]
      exact overL_filter r _ fun x hx => h x (List.mem_cons_of_mem _ hx)
theorem lc_filter {α : Type} {f : α → D} {elt : E} {tg : T} {it : It} {c : Eo} {k : Nat} {ρ : Env} {l : List α} {p : α → Bool} {g : α → D} (hI : evI C call it ρ S = .ok (.its (l.map f)) S)
    (h : ∀ a ∈ l, ∃ ρ', asT C call tg (f a) (Q.wipe ρ tg.slots) S = .ok ρ' S ∧ evC C call c ρ' S = .ok (p a) S ∧ (p a = true → evE C call elt ρ' S = .ok (.v (g a)) S)) : evE C call (.lc elt tg it c k) ρ S = .ok (.t ((l.filter p).map g)) S := by
  have e := overL_filter (S := S) (f := f) (step := fun d S => (asT C call tg d (Q.wipe ρ tg.slots) S).bind fun ρ S => (evC C call c ρ S).bind fun k S =>
        if k then (evE C call elt ρ S).bind fun y S => Q.settle y S fun d S => .ok (some d) S else .ok none S) (p := p) (g := g) l [] fun d hd => by
    obtain ⟨ρ', h1, h2, h3⟩ := h d hd
    show (asT C call tg (f d) (Q.wipe ρ tg.slots) S).bind _ = _
    rw [h1]
    show (evC C call c ρ' S).bind _ = _
    rw [h2]
    cases hp : p d with
    | true =>
      show (evE C call elt ρ' S).bind _ = _
      rw [h3 hp]
      rfl
    | false => rfl
  rw [evE, hI]
  show (calm (overL _ (l.map f) [] S)).bind _ = _
  rw [e, List.nil_append]
  rfl
theorem lc_map {α : Type} {f : α → D} {elt : E} {tg : T} {it : It} {k : Nat} {ρ : Env} {l : List α} {g : α → D} (hI : evI C call it ρ S = .ok (.its (l.map f)) S)
    (h : ∀ a ∈ l, ∃ ρ', asT C call tg (f a) (Q.wipe ρ tg.slots) S = .ok ρ' S ∧ evE C call elt ρ' S = .ok (.v (g a)) S) : evE C call (.lc elt tg it .no k) ρ S = .ok (.t (l.map g)) S := by
  have := lc_filter (c := .no) (k := k) (p := fun _ => true) hI fun d hd => by
    obtain ⟨ρ', h1, h2⟩ := h d hd
    exact ⟨ρ', h1, by rw [evC], fun _ => h2⟩
  rw [this, List.filter_eq_self.mpr fun _ _ => rfl]
/-- a loop over known items; R holds of what was walked -/
theorem forL_ind {turn : D → Env → Store → Res Fl} {all : List D} (R : List D → Env → Store → Prop) (h : ∀ done d rest ρ S, done ++ d :: rest = all → R done ρ S → ∃ ρ' S', (turn d ρ S = .ok (.nx ρ') S' ∨ turn d ρ S = .ok (.ct ρ') S') ∧ R (done ++ [d]) ρ' S') :
    ∀ (ds done : List D) (ρ : Env) (S : Store), done ++ ds = all → R done ρ S → ∃ ρ' S', forL turn ds ρ S = .ok (.nx ρ') S' ∧ R all ρ' S'
  | [], done, ρ, S, e, r => ⟨ρ, S, by rw [forL], by rw [List.append_nil] at e; rw [← e]; exact r⟩
  | d :: rest, done, ρ, S, e, r => by
    obtain ⟨ρ', S', e1, r'⟩ := h done d rest ρ S e r
    obtain ⟨ρ2, S2, e2, r2⟩ := forL_ind R h rest (done ++ [d]) ρ' S' (by rw [List.append_assoc]; exact e) r'
    refine ⟨ρ2, S2, ?_, r2⟩
    rw [forL]
    rcases e1 with e1 | e1 <;> (rw [e1]; exact e2)
end
end Q
end
section
-- M7
set_option Elab.async false
set_option linter.all false
set_option maxRecDepth 100000
namespace Q
open PySem (Str Operator CmpOp BoolOp PyData Paired)
/-! ### what calls promise -/
def SAdd (C : Q.Ctx) (d i : Nat) : Prop := ∀ k l p q, Sz k p → Sz l q → k + l ≤ 4000 → Sp C d i [num p, num q] (.v (num (p + q)))
def SMul (C : Q.Ctx) (d i : Nat) : Prop := ∀ k l p q, Sz k p → Sz l q → k + l ≤ 4000 → Sp C d i [num p, num q] (.v (num (p * q)))
def SSub (C : Q.Ctx) (d i : Nat) : Prop := ∀ k l p q, Sz k p → Sz l q → k + l ≤ 4000 → Sp C d i [num p, num q] (.v (num (p - q)))
def SDiv (C : Q.Ctx) (d i : Nat) : Prop := ∀ k l p q, Sz k p → Sz l q → q ≠ 0 → k + l ≤ 4000 → Sp C d i [num p, num q] (.v (num (p / q)))
def SNeg (C : Q.Ctx) (d i : Nat) : Prop := ∀ p, Sp C d i [num p] (.v (num (-p)))
def SLess (C : Q.Ctx) (d i : Nat) : Prop := ∀ k l p q, Sz k p → Sz l q → k + l ≤ 4000 → Sp C d i [num p, num q] (.v (.bl (decide (p < q))))
/-- rows -/
def SAddR (C : Q.Ctx) (d i : Nat) : Prop := ∀ k l p q, (∀ x ∈ p, Sz k x) → (∀ x ∈ q, Sz l x) → k + l ≤ 4000 → Sp C d i [row p, row q] (.v (row (List.zipWith (· + ·) p q)))
def SMulR (C : Q.Ctx) (d i : Nat) : Prop := ∀ k l p q, Sz k p → (∀ x ∈ q, Sz l x) → k + l ≤ 4000 → Sp C d i [num p, row q] (.v (row (q.map (p * ·))))
section
variable {C : Q.Ctx} {call : Nat → List D → Store → Res R} {S : Store}
theorem asT_nm {i : Nat} {d : D} {ρ : Env} : asT C call (.nm i) d ρ S = .ok (ρ.set i (some d)) S := by rw [asT]
theorem evI_row {e : E} {ρ : Env} {ds : List D} (h : evE C call e ρ S = .ok (.v (.tup ds)) S) : evI C call (.seq e) ρ S = .ok (.its ds) S := by
  rw [evI, h]
  rfl
theorem evI_t {e : E} {ρ : Env} {ds : List D} (h : evE C call e ρ S = .ok (.t ds) S) : evI C call (.seq e) ρ S = .ok (.its ds) S := by
  rw [evI, h]
  rfl
theorem evI_zip {e e' : E} {ρ : Env} {ds es : List D} (h : evE C call e ρ S = .ok (.v (.tup ds)) S) (h' : evE C call e' ρ S = .ok (.v (.tup es)) S) : evI C call (.zip e e') ρ S = .ok (.its ((ds.zip es).map fun p => .tup [p.1, p.2])) S := by
  rw [evI, h]
  show (evE C call e' ρ S).bind _ = _
  rw [h']
  rfl
theorem mulR_spec {d i m g : Nat} (h : C.fns[i]? = some (F_times_row m g)) (hm : SMul C d m) (hg : C.glb[g]? = some (num 0)) : SMulR C (d + 1) i := by
  intro k l p q hp hq e
  refine Sp.by h rfl fun n S => ?_
  show evSs C (evCall C (n + d)) (t_times_row m g) [some (num p), some (row q), none] S = _
  have key := lc_map (C := C) (call := evCall C (n + d)) (S := S) (elt := .ife (.cmp .NotEq (.var 2) (.glb g)) (.call m (.cons (.var 0) (.cons (.var 2) .nil))) (.glb g)) (tg := .nm 2) (it := .seq (.var 1)) (k := 0) (ρ := [some (num p), some (row q), none]) (l := q) (f := num)
    (g := fun x => num (p * x)) (evI_row (by simp [row])) fun y hy => by
    refine ⟨_, asT_nm, ?_⟩
    show evE C (evCall C (n + d)) _ [some (num p), some (row q), some (num y)] S = _
    have c := hm k l p y hp (hq y hy) e
    by_cases z : y = 0
    · subst z
      simp [hg, Rat.mul_zero]
    · simp [hg, z, c.fill, c.run]
  simp [t_times_row, key]
  simp [row]
theorem byR_spec {d i m : Nat} (h : C.fns[i]? = some (F_law_by m)) (hm : SMul C d m) : SMulR C (d + 1) i := by
  intro k l p q hp hq e
  refine Sp.by h rfl fun n S => ?_
  show evSs C (evCall C (n + d)) (t_law_by m) [some (num p), some (row q), none] S = _
  have key := lc_map (C := C) (call := evCall C (n + d)) (S := S) (elt := .call m (.cons (.var 0) (.cons (.var 2) .nil))) (tg := .nm 2) (it := .seq (.var 1)) (k := 0) (ρ := [some (num p), some (row q), none]) (l := q) (f := num)
    (g := fun x => num (p * x)) (evI_row (by simp [row])) fun y hy => by
    refine ⟨_, asT_nm, ?_⟩
    show evE C (evCall C (n + d)) _ [some (num p), some (row q), some (num y)] S = _
    have c := hm k l p y hp (hq y hy) e
    simp [c.fill, c.run]
  simp [t_law_by, key]
  simp [row]
/-- pairs walked -/
theorem zip_pairs (p q : List Rat) : ((p.map num).zip (q.map num)).map (fun x => D.tup [x.1, x.2]) = (p.zip q).map fun x => .tup [num x.1, num x.2] := by
  rw [List.zip_map, List.map_map]
  rfl
theorem map_zip_with {α β γ : Type} (f : α → β → γ) : ∀ (p : List α) (q : List β), (p.zip q).map (fun x => f x.1 x.2) = List.zipWith f p q
  | [], _ => by simp
  | _ :: _, [] => by simp
  | a :: p, b :: q => by simp [map_zip_with f p q]
theorem addR_gen {d i m : Nat} {b : Ss} (h : C.fns[i]? = some ⟨2, 4, [], b⟩) (hb : b = t_sum_of_rows m) (hm : SAdd C d m) : SAddR C (d + 1) i := by
  subst hb
  intro k l p q hp hq e
  refine Sp.by h rfl fun n S => ?_
  show evSs C (evCall C (n + d)) (t_sum_of_rows m) [some (row p), some (row q), none, none] S = _
  have key := lc_map (C := C) (call := evCall C (n + d)) (S := S) (elt := .call m (.cons (.var 2) (.cons (.var 3) .nil))) (tg := .tp (.cons (.nm 2) (.cons (.nm 3) .nil))) (it := .zip (.var 0) (.var 1)) (k := 0) (ρ := [some (row p), some (row q), none, none]) (l := p.zip q) (f := fun x => .tup [num x.1, num x.2])
    (g := fun x => num (x.1 + x.2)) (by
      have := evI_zip (C := C) (call := evCall C (n + d)) (S := S) (e := .var 0) (e' := .var 1) (ρ := [some (row p), some (row q), none, none]) (ds := p.map num) (es := q.map num) (by simp [row]) (by simp [row])
      rw [zip_pairs] at this
      exact this) fun y hy => by
    refine ⟨[some (row p), some (row q), some (num y.1), some (num y.2)], ?_, ?_⟩
    · simp [tupOf, uncons, Ts.len, T.slots, Ts.slots, Q.wipe]
    · have h1 := List.of_mem_zip hy
      have c := hm k l y.1 y.2 (hp _ h1.1) (hq _ h1.2) e
      simp [c.fill, c.run]
  simp [t_sum_of_rows, key]
  simp [row]
  exact map_zip_with (fun x y => num (x + y)) p q
end
end Q
end
section
-- M8
set_option Elab.async false
set_option linter.all false
set_option maxRecDepth 100000
namespace Q
open PySem (Str Operator CmpOp BoolOp PyData Paired)
/-! ### sums -/
def sumL (l : List Rat) : Rat := l.foldl (· + ·) 0
def dotL (p q : List Rat) : Rat := sumL (List.zipWith (· * ·) p q)
theorem sumL_snoc (l : List Rat) (x : Rat) : sumL (l ++ [x]) = sumL l + x := by
  unfold sumL
  rw [List.foldl_append]
  rfl
theorem sz_sum {k : Nat} (l : List Rat) (h : ∀ x ∈ l, Sz k x) : Sz (l.length * (k + 1) + 1) (sumL l) := by
  suffices ∀ (m : List Rat) (b : Rat) (j : Nat), (∀ x ∈ m, Sz k x) → Sz j b → Sz (j + m.length * (k + 1)) (m.foldl (· + ·) b) by
    have := this l 0 1 h sz_zero
    rw [Nat.add_comm]
    exact this
  intro m
  induction m with
  | nil => intro b j _ hb; simpa using hb
  | cons a r ih =>
    intro b j hm hb
    have := ih (b + a) (j + k + 1) (fun x hx => hm x (List.mem_cons_of_mem _ hx)) (sz_add hb (hm a List.mem_cons_self))
    rw [List.foldl_cons, List.length_cons, Nat.add_mul, Nat.one_mul]
    exact this.mono (by omega)
section
variable {C : Q.Ctx} {call : Nat → List D → Store → Res R} {S : Store}
theorem forL_typed {α : Type} {f : α → D} {turn : D → Env → Store → Res Fl} {l : List α} {ρ : Env} (R : List α → Env → Store → Prop) (h : ∀ done a rest ρ S, l = done ++ a :: rest → R done ρ S → ∃ ρ' S', (turn (f a) ρ S = .ok (.nx ρ') S' ∨ turn (f a) ρ S = .ok (.ct ρ') S') ∧ R (done ++ [a]) ρ' S') (r : R [] ρ S) :
    ∃ ρ' S', forL turn (l.map f) ρ S = .ok (.nx ρ') S' ∧ R l ρ' S' := by
  suffices ∀ (m done : List α) (ρ : Env) (S : Store), l = done ++ m → R done ρ S → ∃ ρ' S', forL turn (m.map f) ρ S = .ok (.nx ρ') S' ∧ R l ρ' S' from this l [] ρ S rfl r
  intro m
  induction m with
  | nil => intro done ρ S e r; exact ⟨ρ, S, by rw [List.map_nil, forL], by rw [List.append_nil] at e; rw [e]; exact r⟩
  | cons a rest ih =>
    intro done ρ S e r
    obtain ⟨ρ', S', e1, r'⟩ := h done a rest ρ S e r
    obtain ⟨ρ2, S2, e2, r2⟩ := ih (done ++ [a]) ρ' S' (by rw [List.append_assoc]; exact e) r'
    refine ⟨ρ2, S2, ?_, r2⟩
    rw [List.map_cons, forL]
    rcases e1 with e1 | e1 <;> (rw [e1]; exact e2)
theorem s_for {t : T} {it : It} {b : Ss} {ρ : Env} {ds : List D} (h : evI C call it ρ S = .ok (.its ds) S) : evS C call (.for t it b) ρ S = forL (fun d ρ S => (calm (asT C call t d ρ S)).bind fun ρ S => evSs C call b ρ S) ds ρ S := by
  rw [evS, h]
  rfl
def SSum (C : Q.Ctx) (d i : Nat) : Prop := ∀ k p, (∀ x ∈ p, Sz k x) → (p.length + 1) * (k + 1) + 1 ≤ 4000 → Sp C d i [row p] (.v (num (sumL p)))
theorem sum_spec {d i a g : Nat} (h : C.fns[i]? = some (F_sum_of a g)) (ha : SAdd C d a) (hg : C.glb[g]? = some (num 0)) : SSum C (d + 1) i := by
  intro k p hp hk
  refine Sp.by h rfl fun n S => ?_
  show evSs C (evCall C (n + d)) (t_sum_of a g) [some (row p), none, none] S = _
  obtain ⟨ρ', S', e, x, e1, e2⟩ := forL_typed (S := S) (f := num) (turn := fun d' ρ S => (calm (asT C (evCall C (n + d)) (.nm 2) d' ρ S)).bind fun ρ S => evSs C (evCall C (n + d)) (.cons (.asg (.nm 1) (.call a (.cons (.var 1) (.cons (.var 2) .nil)))) .nil) ρ S) (l := p) (ρ := [some (row p), some (num 0), none])
    (fun done ρ S' => ∃ x, ρ = [some (row p), some (num (sumL done)), x] ∧ S' = S) (fun done b rest ρ S' el ⟨x, e1, e2⟩ => by
      subst e1 e2
      have hb : ∀ y ∈ done, Sz k y := fun y hy => hp y (by rw [el]; exact List.mem_append_left _ hy)
      have hl : done.length + 1 ≤ p.length := by rw [el, List.length_append, List.length_cons]; omega
      have hm : (done.length + 1) * (k + 1) ≤ p.length * (k + 1) := Nat.mul_le_mul_right _ hl
      rw [Nat.add_mul, Nat.one_mul] at hm hk
      have c := ha _ k (sumL done) b (sz_sum done hb) (hp b (by rw [el]; simp)) (by omega)
      refine ⟨[some (row p), some (num (sumL (done ++ [b]))), some (num b)], _, .inl ?_, _, rfl, rfl⟩
      simp [calm, c.fill, c.run, sumL_snoc]) ⟨none, rfl, rfl⟩
  rw [e1, e2] at e
  have eI : evI C (evCall C (n + d)) (.seq (.var 0)) [some (row p), some (num 0), none] S = .ok (.its (p.map num)) S := evI_row (by simp [row])
  have es := (s_for eI).trans e
  simp [t_sum_of, hg, calm, es]
/-- products of rows -/
def SDot (C : Q.Ctx) (d i : Nat) : Prop := ∀ k l p q, (∀ x ∈ p, Sz k x) → (∀ x ∈ q, Sz l x) → (p.length + 1) * (k + l + 1) + 1 ≤ 4000 → Sp C d i [row p, row q] (.v (num (dotL p q)))
theorem asT_two {i j : Nat} {x y : D} {ρ : Env} : asT C call (.tp (.cons (.nm i) (.cons (.nm j) .nil))) (.tup [x, y]) ρ S = .ok ((ρ.set i (some x)).set j (some y)) S := by
  simp [tupOf, uncons, Ts.len]
theorem zip_snoc {p q : List Rat} {done rest : List (Rat × Rat)} {b : Rat × Rat} (e : p.zip q = done ++ b :: rest) : (∀ x ∈ done ++ [b], x.1 ∈ p ∧ x.2 ∈ q) ∧ done.length + 1 ≤ p.length := by
  refine ⟨fun x hx => ?_, ?_⟩
  · have : x ∈ p.zip q := by
      rw [e]
      rcases List.mem_append.mp hx with z | z
      · exact List.mem_append_left _ z
      · rw [List.mem_singleton] at z; rw [z]; simp
    exact List.of_mem_zip this
  · have := congrArg List.length e
    rw [List.length_zip, List.length_append, List.length_cons] at this
    omega
theorem dot_zip (p q : List Rat) : dotL p q = sumL ((p.zip q).map fun x => x.1 * x.2) := by
  unfold dotL
  rw [map_zip_with]
theorem evI_zipR {e e' : E} {ρ : Env} {p q : List Rat} (h : evE C call e ρ S = .ok (.v (row p)) S) (h' : evE C call e' ρ S = .ok (.v (row q)) S) : evI C call (.zip e e') ρ S = .ok (.its ((p.zip q).map fun x => .tup [num x.1, num x.2])) S := by
  have := evI_zip h h'
  rw [zip_pairs] at this
  exact this
/-- the loop of both products -/
theorem dot_loop {d a m k l : Nat} {p q : List Rat} (ha : SAdd C d a) (hm : SMul C d m) (hp : ∀ x ∈ p, Sz k x) (hq : ∀ x ∈ q, Sz l x) (hk : (p.length + 1) * (k + l + 1) + 1 ≤ 4000) {body : Ss} {n : Nat} {S : Store}
    (hb : ∀ (f x y : Rat), Sp C d m [num x, num y] (.v (num (x * y))) → Sp C d a [num f, num (x * y)] (.v (num (f + x * y))) → evSs C (evCall C (n + d)) body [some (row p), some (row q), some (num f), some (num x), some (num y)] S = .ok (.nx [some (row p), some (row q), some (num (f + x * y)), some (num x), some (num y)]) S) :
    ∃ x y, forL (fun d' ρ S => (calm (asT C (evCall C (n + d)) (.tp (.cons (.nm 3) (.cons (.nm 4) .nil))) d' ρ S)).bind fun ρ S => evSs C (evCall C (n + d)) body ρ S) ((p.zip q).map fun x => .tup [num x.1, num x.2]) [some (row p), some (row q), some (num 0), none, none] S = .ok (.nx [some (row p), some (row q), some (num (dotL p q)), x, y]) S := by
  obtain ⟨ρ', S', e, x, y, e1, e2⟩ := forL_typed (S := S) (f := fun x : Rat × Rat => D.tup [num x.1, num x.2]) (turn := fun d' ρ S => (calm (asT C (evCall C (n + d)) (.tp (.cons (.nm 3) (.cons (.nm 4) .nil))) d' ρ S)).bind fun ρ S => evSs C (evCall C (n + d)) body ρ S) (l := p.zip q) (ρ := [some (row p), some (row q), some (num 0), none, none])
    (fun done ρ S' => ∃ x y, ρ = [some (row p), some (row q), some (num (sumL (done.map fun x => x.1 * x.2))), x, y] ∧ S' = S) (fun done b rest ρ S' el ⟨x, y, e1, e2⟩ => by
      subst e1
      rw [e2]
      obtain ⟨h1, hl⟩ := zip_snoc el
      have hs : ∀ z ∈ done.map (fun x => x.1 * x.2), Sz (k + l) z := fun z hz => by
        obtain ⟨w, hw, rfl⟩ := List.mem_map.mp hz
        have := h1 w (List.mem_append_left _ hw)
        exact sz_mul (hp _ this.1) (hq _ this.2)
      have hb1 := h1 b (by simp)
      have hm' : (done.length + 1) * (k + l + 1) ≤ p.length * (k + l + 1) := Nat.mul_le_mul_right _ hl
      rw [Nat.add_mul, Nat.one_mul] at hm' hk
      have sz := sz_sum _ hs
      rw [List.length_map] at sz
      have cm := hm k l b.1 b.2 (hp _ hb1.1) (hq _ hb1.2) (by omega)
      have ca := ha _ (k + l) _ (b.1 * b.2) sz (sz_mul (hp _ hb1.1) (hq _ hb1.2)) (by omega)
      refine ⟨[some (row p), some (row q), some (num (sumL (done.map fun x => x.1 * x.2) + b.1 * b.2)), some (num b.1), some (num b.2)], S, .inl ?_, some (num b.1), some (num b.2), ?_, rfl⟩
      · show (calm (asT C (evCall C (n + d)) _ (.tup [num b.1, num b.2]) _ S)).bind _ = _
        rw [asT_two]
        exact hb _ _ _ cm ca
      · rw [List.map_append, List.map_cons, List.map_nil, sumL_snoc]) ⟨none, none, rfl, rfl⟩
  rw [e1, e2] at e
  exact ⟨x, y, by rw [dot_zip]; exact e⟩
theorem dot_spec {d i a m g : Nat} (h : C.fns[i]? = some (F_product_of a m g)) (ha : SAdd C d a) (hm : SMul C d m) (hg : C.glb[g]? = some (num 0)) : SDot C (d + 1) i := by
  intro k l p q hp hq hk
  refine Sp.by h rfl fun n S => ?_
  show evSs C (evCall C (n + d)) (t_product_of a m g) [some (row p), some (row q), none, none, none] S = _
  have eI := evI_zipR (C := C) (call := evCall C (n + d)) (S := S) (e := .var 0) (e' := .var 1) (ρ := [some (row p), some (row q), some (num 0), none, none]) (p := p) (q := q) (by simp) (by simp)
  obtain ⟨x, y, e⟩ := dot_loop ha hm hp hq hk (n := n) (S := S) (body := (.cons (.ife (.bop .And (.cons (.cmp .NotEq (.var 3) (.glb g)) (.cons (.cmp .NotEq (.var 4) (.glb g)) .nil))) (.cons (.asg (.nm 2) (.call a (.cons (.var 2) (.cons (.call m (.cons (.var 3) (.cons (.var 4) .nil))) .nil)))) .nil) .nil) .nil)) fun f x y cm ca => by
    by_cases hx : x = 0
    · subst hx
      simp [hg, Rat.zero_mul, Rat.add_zero]
    · by_cases hy : y = 0
      · subst hy
        simp [hg, hx, Rat.mul_zero, Rat.add_zero]
      · simp [hg, hx, hy, calm, cm.fill, cm.run, ca.fill, ca.run]
  have es := (s_for eI).trans e
  simp [t_product_of, hg, calm, es]
theorem notIn_zero (S : Store) (a b : Int) : evCmp .NotIn S (.v (.int 0)) (.v (.tup [.int a, .int b])) = some (decide (a ≠ 0 ∧ b ≠ 0)) := by
  show some (!L2.inV (.int 0) [.int a, .int b]) = _
  unfold L2.inV
  by_cases h1 : a = 0 <;> by_cases h2 : b = 0 <;> simp [L2.eqV, h1, h2]
theorem ldot_spec {d i a m : Nat} (h : C.fns[i]? = some (F_law_dot a m)) (ha : SAdd C d a) (hm : SMul C d m) : SDot C (d + 1) i := by
  intro k l p q hp hq hk
  refine Sp.by h rfl fun n S => ?_
  show evSs C (evCall C (n + d)) (t_law_dot a m) [some (row p), some (row q), none, none, none] S = _
  have eI := evI_zipR (C := C) (call := evCall C (n + d)) (S := S) (e := .var 0) (e' := .var 1) (ρ := [some (row p), some (row q), some (num 0), none, none]) (p := p) (q := q) (by simp) (by simp)
  have e0 : D.tup [.int 0, .int 1] = num 0 := rfl
  obtain ⟨x, y, e⟩ := dot_loop ha hm hp hq hk (n := n) (S := S) (body := (.cons (.ife (.cmp .NotIn (.int 0) (.tup (.cons (.idx (.var 3) (.int 0)) (.cons (.idx (.var 4) (.int 0)) .nil)))) (.cons (.asg (.nm 2) (.call a (.cons (.var 2) (.cons (.call m (.cons (.var 3) (.cons (.var 4) .nil))) .nil)))) .nil) .nil) .nil)) fun f x y cm ca => by
    by_cases hx : x = 0
    · subst hx
      simp [notIn_zero, Rat.zero_mul, Rat.add_zero]
    · by_cases hy : y = 0
      · subst hy
        simp [notIn_zero, hx, Rat.mul_zero, Rat.add_zero]
      · have h1 : x.num ≠ 0 := num_ne hx
        have h2 : y.num ≠ 0 := num_ne hy
        simp [notIn_zero, h1, h2, calm, cm.fill, cm.run, ca.fill, ca.run]
  have es := (s_for eI).trans e
  simp [t_law_dot, calm, e0, es]
end
end Q
end
section
-- M9
set_option Elab.async false
set_option linter.all false
set_option maxRecDepth 100000
namespace Q
open PySem (Str Operator CmpOp BoolOp PyData Paired)
/-! ### what a table leads a row to -/
def mix (f : List Rat) (x : Rat) (r : List Rat) : List Rat := List.zipWith (· + ·) f (r.map (x * ·))
def ledL (w : Nat) (t : List (Rat × List Rat)) : List Rat := t.foldl (fun f x => mix f x.1 x.2) (List.replicate w 0)
theorem ledL_snoc (w : Nat) (t : List (Rat × List Rat)) (x : Rat × List Rat) : ledL w (t ++ [x]) = mix (ledL w t) x.1 x.2 := by
  unfold ledL
  rw [List.foldl_append]
  rfl
theorem mix_len {w : Nat} {f r : List Rat} {x : Rat} (h : f.length = w) (g : r.length = w) : (mix f x r).length = w := by
  unfold mix
  rw [List.length_zipWith, List.length_map]
  omega
theorem mem_zipWith {α β γ : Type} {f : α → β → γ} : ∀ {p : List α} {q : List β} {z : γ}, z ∈ List.zipWith f p q → ∃ a ∈ p, ∃ b ∈ q, z = f a b
  | [], _, z, h => by simp at h
  | _ :: _, [], z, h => by simp at h
  | a :: p, b :: q, z, h => by
    rw [List.zipWith_cons_cons, List.mem_cons] at h
    rcases h with h | h
    · exact ⟨a, List.mem_cons_self, b, List.mem_cons_self, h⟩
    · obtain ⟨a', h1, b', h2, h3⟩ := mem_zipWith h
      exact ⟨a', List.mem_cons_of_mem _ h1, b', List.mem_cons_of_mem _ h2, h3⟩
theorem mix_sz {j k l : Nat} {f r : List Rat} {x : Rat} (hf : ∀ y ∈ f, Sz j y) (hx : Sz k x) (hr : ∀ y ∈ r, Sz l y) : ∀ y ∈ mix f x r, Sz (j + (k + l) + 1) y := fun y hy => by
  obtain ⟨a, ha, b, hb, e⟩ := mem_zipWith hy
  obtain ⟨c, hc, rfl⟩ := List.mem_map.mp hb
  rw [e]
  exact sz_add (hf a ha) (sz_mul hx (hr c hc))
theorem led_len {w : Nat} : ∀ (t : List (Rat × List Rat)), (∀ x ∈ t, x.2.length = w) → (ledL w t).length = w := fun t => by
  suffices ∀ (t : List (Rat × List Rat)) (f : List Rat), f.length = w → (∀ x ∈ t, x.2.length = w) → (t.foldl (fun f x => mix f x.1 x.2) f).length = w from fun h => this t _ (by simp) h
  intro t
  induction t with
  | nil => intro f hf _; exact hf
  | cons x r ih => intro f hf h; exact ih _ (mix_len hf (h x List.mem_cons_self)) fun y hy => h y (List.mem_cons_of_mem _ hy)
theorem led_sz {k l w : Nat} (t : List (Rat × List Rat)) (h : ∀ x ∈ t, Sz k x.1 ∧ ∀ y ∈ x.2, Sz l y) : ∀ y ∈ ledL w t, Sz (t.length * (k + l + 1) + 1) y := by
  suffices ∀ (t : List (Rat × List Rat)) (f : List Rat) (j : Nat), (∀ y ∈ f, Sz j y) → (∀ x ∈ t, Sz k x.1 ∧ ∀ y ∈ x.2, Sz l y) → ∀ y ∈ t.foldl (fun f x => mix f x.1 x.2) f, Sz (j + t.length * (k + l + 1)) y by
    have := this t (List.replicate w 0) 1 (fun y hy => by rw [(List.mem_replicate.mp hy).2]; exact sz_zero) h
    intro y hy
    rw [Nat.add_comm]
    exact this y hy
  intro t
  induction t with
  | nil => intro f j hf _ y hy; simpa using hf y hy
  | cons x r ih =>
    intro f j hf h y hy
    have h1 := h x List.mem_cons_self
    have := ih (mix f x.1 x.2) (j + (k + l) + 1) (mix_sz hf h1.1 h1.2) (fun z hz => h z (List.mem_cons_of_mem _ hz)) y hy
    rw [List.length_cons, Nat.add_mul, Nat.one_mul]
    exact this.mono (by omega)
/-- a table of w columns, its numbers below l -/
structure Tb (w l : Nat) (t : List (List Rat)) : Prop where
  len : ∀ r ∈ t, r.length = w
  sz : ∀ r ∈ t, ∀ x ∈ r, Sz l x
section
variable {C : Q.Ctx} {call : Nat → List D → Store → Res R} {S : Store}
theorem zip_pairsR (p : List Rat) (t : List (List Rat)) : ((p.map num).zip (t.map row)).map (fun x => D.tup [x.1, x.2]) = (p.zip t).map fun x => .tup [num x.1, row x.2] := by
  rw [List.zip_map, List.map_map]
  rfl
theorem evI_zipT {e e' : E} {ρ : Env} {p : List Rat} {t : List (List Rat)} (h : evE C call e ρ S = .ok (.v (row p)) S) (h' : evE C call e' ρ S = .ok (.v (tabD t)) S) : evI C call (.zip e e') ρ S = .ok (.its ((p.zip t).map fun x => .tup [num x.1, row x.2])) S := by
  have := evI_zip h h'
  rw [zip_pairsR] at this
  exact this
theorem zip_snocR {p : List Rat} {q : List (List Rat)} {done rest : List (Rat × List Rat)} {b : Rat × List Rat} (e : p.zip q = done ++ b :: rest) : (∀ x ∈ done ++ [b], x.1 ∈ p ∧ x.2 ∈ q) ∧ done.length + 1 ≤ p.length := by
  refine ⟨fun x hx => ?_, ?_⟩
  · have : x ∈ p.zip q := by
      rw [e]
      rcases List.mem_append.mp hx with z | z
      · exact List.mem_append_left _ z
      · rw [List.mem_singleton] at z; rw [z]; simp
    exact List.of_mem_zip this
  · have := congrArg List.length e
    rw [List.length_zip, List.length_append, List.length_cons] at this
    omega
def ledT (w : Nat) (p : List Rat) (t : List (List Rat)) : List Rat := ledL w (p.zip t)
def SLed (C : Q.Ctx) (d i : Nat) : Prop := ∀ k l w p t, (∀ x ∈ p, Sz k x) → Tb w l t → w ≤ 1000 → (p.length + 1) * (k + l + 1) + 1 ≤ 4000 → Sp C d i [.int w, tabD t, row p] (.v (row (ledT w p t)))
theorem led_loop {d a m k l w : Nat} {p : List Rat} {t : List (List Rat)} (ha : SAddR C d a) (hm : SMulR C d m) (hp : ∀ x ∈ p, Sz k x) (ht : Tb w l t) (hk : (p.length + 1) * (k + l + 1) + 1 ≤ 4000) {body : Ss} {n : Nat} {S : Store}
    (hb : ∀ (f : List Rat) (x : Rat) (r : List Rat), f.length = w → r.length = w → Sp C d m [num x, row r] (.v (row (r.map (x * ·)))) → Sp C d a [row f, row (r.map (x * ·))] (.v (row (mix f x r))) →
      evSs C (evCall C (n + d)) body [some (.int w), some (tabD t), some (row p), some (row f), some (num x), some (row r)] S = .ok (.nx [some (.int w), some (tabD t), some (row p), some (row (mix f x r)), some (num x), some (row r)]) S) :
    ∃ x y, forL (fun d' ρ S => (calm (asT C (evCall C (n + d)) (.tp (.cons (.nm 4) (.cons (.nm 5) .nil))) d' ρ S)).bind fun ρ S => evSs C (evCall C (n + d)) body ρ S) ((p.zip t).map fun x => .tup [num x.1, row x.2]) [some (.int w), some (tabD t), some (row p), some (row (List.replicate w 0)), none, none] S = .ok (.nx [some (.int w), some (tabD t), some (row p), some (row (ledT w p t)), x, y]) S := by
  obtain ⟨ρ', S', e, x, y, e1, e2⟩ := forL_typed (S := S) (f := fun x : Rat × List Rat => D.tup [num x.1, row x.2]) (turn := fun d' ρ S => (calm (asT C (evCall C (n + d)) (.tp (.cons (.nm 4) (.cons (.nm 5) .nil))) d' ρ S)).bind fun ρ S => evSs C (evCall C (n + d)) body ρ S) (l := p.zip t) (ρ := [some (.int w), some (tabD t), some (row p), some (row (List.replicate w 0)), none, none])
    (fun done ρ S' => ∃ x y, ρ = [some (.int w), some (tabD t), some (row p), some (row (ledL w done)), x, y] ∧ S' = S) (fun done b rest ρ S' el ⟨x, y, e1, e2⟩ => by
      subst e1
      rw [e2]
      obtain ⟨h1, hl⟩ := zip_snocR el
      have hb1 := h1 b (by simp)
      have hd : ∀ z ∈ done, Sz k z.1 ∧ ∀ y ∈ z.2, Sz l y := fun z hz => by
        have := h1 z (List.mem_append_left _ hz)
        exact ⟨hp _ this.1, ht.sz _ this.2⟩
      have hn : ∀ z ∈ done, z.2.length = w := fun z hz => ht.len _ (h1 z (List.mem_append_left _ hz)).2
      have hm' : (done.length + 1) * (k + l + 1) ≤ p.length * (k + l + 1) := Nat.mul_le_mul_right _ hl
      rw [Nat.add_mul, Nat.one_mul] at hm' hk
      have sz := led_sz (w := w) done hd
      have cm := hm k l b.1 b.2 (hp _ hb1.1) (ht.sz _ hb1.2) (by omega)
      have ca := ha _ (k + l) _ (b.2.map (b.1 * ·)) sz (fun z hz => by
        obtain ⟨c, hc, rfl⟩ := List.mem_map.mp hz
        exact sz_mul (hp _ hb1.1) (ht.sz _ hb1.2 c hc)) (by omega)
      refine ⟨[some (.int w), some (tabD t), some (row p), some (row (mix (ledL w done) b.1 b.2)), some (num b.1), some (row b.2)], S, .inl ?_, some (num b.1), some (row b.2), ?_, rfl⟩
      · show (calm (asT C (evCall C (n + d)) _ (.tup [num b.1, row b.2]) _ S)).bind _ = _
        rw [asT_two]
        exact hb _ _ _ (led_len done hn) (ht.len _ hb1.2) cm ca
      · rw [ledL_snoc]) ⟨none, none, rfl, rfl⟩
  rw [e1, e2] at e
  exact ⟨x, y, e⟩
theorem rep_num (w : Nat) (x : Rat) : (List.replicate w [num x]).flatten = (List.replicate w x).map num := by
  induction w with
  | zero => rfl
  | succ n ih => rw [List.replicate_succ, List.flatten_cons, ih, List.replicate_succ]; rfl
theorem mul_rep (S : Store) (w : Nat) (x : Rat) (h : w ≤ 1000) : evBin .Mult S (.v (.tup [num x])) (.v (.int w)) = .ok (.v (row (List.replicate w x))) S := by
  show (if (Nat.ble [num x].length 1000 && decide ((w : Int) ≤ 1000) && decide (0 ≤ (w : Int))) = true then _ else _) = _
  rw [if_pos (by simp; omega), Int.toNat_natCast, rep_num]
  rfl
def SRest (C : Q.Ctx) (d i : Nat) : Prop := ∀ w : Nat, w ≤ 1000 → Sp C d i [.int w] (.v (row (List.replicate w 0)))
theorem rest_spec {i g : Nat} (h : C.fns[i]? = some (F_rest_row g)) (hg : C.glb[g]? = some (num 0)) : SRest C 1 i := by
  intro w hw
  refine Sp.by (d := 0) h rfl fun n S => ?_
  show evSs C (evCall C n) (t_rest_row g) [some (.int w)] S = _
  simp [t_rest_row, hg, mul_rep S w 0 hw]
theorem mix_zero {w : Nat} : ∀ {f r : List Rat}, f.length = w → r.length = w → mix f 0 r = f := fun {f r} h g => by
  unfold mix
  have : ∀ (f r : List Rat), f.length = r.length → List.zipWith (· + ·) f (r.map (0 * ·)) = f := by
    intro f
    induction f with
    | nil => intro r _; simp
    | cons a f ih =>
      intro r e
      cases r with
      | nil => cases e
      | cons b r =>
        rw [List.map_cons, List.zipWith_cons_cons, ih r (by simpa using e), Rat.zero_mul, Rat.add_zero]
  exact this f r (by omega)
theorem led_spec {d i r a m g : Nat} (h : C.fns[i]? = some (F_led_told r a m g)) (hr : SRest C d r) (ha : SAddR C d a) (hm : SMulR C d m) (hg : C.glb[g]? = some (num 0)) : SLed C (d + 1) i := by
  intro k l w p t hp ht hw hk
  refine Sp.by h rfl fun n S => ?_
  show evSs C (evCall C (n + d)) (t_led_told r a m g) [some (.int w), some (tabD t), some (row p), none, none, none] S = _
  have eI := evI_zipT (C := C) (call := evCall C (n + d)) (S := S) (e := .var 2) (e' := .var 1) (ρ := [some (.int w), some (tabD t), some (row p), some (row (List.replicate w 0)), none, none]) (p := p) (t := t) (by simp) (by simp)
  obtain ⟨x, y, e⟩ := led_loop ha hm hp ht hk (n := n) (S := S) (body := (.cons (.ife (.cmp .NotEq (.var 4) (.glb g)) (.cons (.asg (.nm 3) (.call a (.cons (.var 3) (.cons (.call m (.cons (.var 4) (.cons (.var 5) .nil))) .nil)))) .nil) .nil) .nil)) fun f x r hf hr cm ca => by
    by_cases hx : x = 0
    · subst hx
      simp [hg, mix_zero hf hr]
    · simp [hg, hx, calm, cm.fill, cm.run, ca.fill, ca.run]
  have es := (s_for eI).trans e
  have cr := hr w hw
  simp [t_led_told, hg, calm, es, cr.fill, cr.run]
theorem forth_spec {d i a m : Nat} (h : C.fns[i]? = some (F_law_forth a m)) (ha : SAddR C d a) (hm : SMulR C d m) : SLed C (d + 1) i := by
  intro k l w p t hp ht hw hk
  refine Sp.by h rfl fun n S => ?_
  show evSs C (evCall C (n + d)) (t_law_forth a m) [some (.int w), some (tabD t), some (row p), none, none, none] S = _
  have eI := evI_zipT (C := C) (call := evCall C (n + d)) (S := S) (e := .var 2) (e' := .var 1) (ρ := [some (.int w), some (tabD t), some (row p), some (row (List.replicate w 0)), none, none]) (p := p) (t := t) (by simp) (by simp)
  have e0 : D.tup [.int 0, .int 1] = num 0 := rfl
  obtain ⟨x, y, e⟩ := led_loop ha hm hp ht hk (n := n) (S := S) (body := (.cons (.asg (.nm 3) (.call a (.cons (.var 3) (.cons (.call m (.cons (.var 4) (.cons (.var 5) .nil))) .nil)))) .nil)) fun f x r hf hr cm ca => by
    simp [calm, cm.fill, cm.run, ca.fill, ca.run]
  have es := (s_for eI).trans e
  simp [t_law_forth, calm, es, e0, mul_rep S w 0 hw]
end
end Q
end
section
-- N16
set_option Elab.async false
set_option linter.all false
set_option maxRecDepth 100000
namespace Q
open PySem (Str Operator CmpOp BoolOp PyData Paired)
/-! ### dice -/
/-- the dice at n: at most c were rolled otherwise -/
def Dice (S : Store) (n c : Nat) : Prop := ∃ a s t : Int, S[n]? = some (.lst [.int a, .int s, .int t]) ∧ 0 ≤ a ∧ 0 ≤ s ∧ 0 ≤ t ∧ t ≤ c ∧ Lt 2000 a ∧ Lt 200 s
/-- all but the dice at n stays; more may be there -/
structure Ext (n : Nat) (S S' : Store) : Prop where
  len : S.length ≤ S'.length
  at_ : ∀ i, i < S.length → i ≠ n → S'[i]? = S[i]?
theorem Ext.refl {n : Nat} {S : Store} : Ext n S S := ⟨Nat.le_refl _, fun _ _ _ => rfl⟩
theorem Ext.trans {n : Nat} {S S1 S2 : Store} (a : Ext n S S1) (b : Ext n S1 S2) : Ext n S S2 := ⟨Nat.le_trans a.len b.len, fun i hi hn => by rw [b.at_ i (Nat.lt_of_lt_of_le hi a.len) hn, a.at_ i hi hn]⟩
theorem Dice.lt {S : Store} {n c : Nat} (h : Dice S n c) : n < S.length := by
  obtain ⟨a, s, t, e, _⟩ := h
  exact (List.getElem?_eq_some_iff.mp e).1
theorem Dice.mono {S : Store} {n c c' : Nat} (h : Dice S n c) (e : c ≤ c') : Dice S n c' := by
  obtain ⟨a, s, t, h1, h2, h3, h4, h5, h6, h7⟩ := h
  exact ⟨a, s, t, h1, h2, h3, h4, by omega, h6, h7⟩
/-- a value that is no place: what is dropped behind a call -/
theorem fin_val {n : Nat} {d : D} {S : Store} (h : ∀ m, d ≠ .ref m) : ∃ S', fin n (.v d) S = .ok (.v d) S' ∧ (S' = S ∨ (n < S.length ∧ S' = S.take n)) := by
  unfold fin
  split
  · exact ⟨S, rfl, .inl rfl⟩
  · rename_i hn
    have hn : n < S.length := by
      have : ¬ S.length ≤ n := fun z => hn (Nat.ble_eq.mpr z)
      omega
    split
    · cases d with
      | ref m => exact absurd rfl (h m)
      | _ =>
        dsimp only
        split
        · exact ⟨_, rfl, .inr ⟨hn, rfl⟩⟩
        · exact ⟨_, rfl, .inl rfl⟩
    · exact ⟨S, rfl, .inl rfl⟩
section
variable {C : Q.Ctx} {call : Nat → List D → Store → Res R} {S : Store}
/-- a call that rolls, and hands back a value -/
theorem ev_dice {m i n c : Nat} {F : Fn} {ds : List D} {S S' : Store} {d : D} (h : C.fns[i]? = some F) (hl : ds.length = F.np) (hd : ∀ m, d ≠ .ref m) (hD : n < S.length) (e : evSs C (evCall C m) F.body (start F ds) S = .ok (.rt (.v d)) S') (x : Ext n S S') (dc : Dice S' n c) :
    ∃ S2, evCall C (m + 1) i ds S = .ok (.v d) S2 ∧ Ext n S S2 ∧ Dice S2 n c := by
  rw [ev_call h hl, e]
  obtain ⟨S2, e2, z⟩ := fin_val (n := S.length) (d := d) (S := S') hd
  refine ⟨S2, e2, ?_⟩
  rcases z with z | ⟨hlt, z⟩
  · subst z; exact ⟨x, dc⟩
  · subst z
    refine ⟨⟨by rw [List.length_take]; omega, fun i hi hn => by rw [List.getElem?_take_of_lt hi]; exact x.at_ i hi hn⟩, ?_⟩
    obtain ⟨a, s, t, h1, h2⟩ := dc
    exact ⟨a, s, t, by rw [List.getElem?_take_of_lt hD]; exact h1, h2⟩
theorem ix_ref (S : Store) (n : Nat) (ds : List D) (i : Int) (h : S[n]? = some (.lst ds)) : getItem S (.v (.ref n)) (.v (.int i)) = atD ds i := by
  unfold getItem seqOf
  dsimp only
  rw [h]
theorem at2 (d e f : D) (ds : List D) : atD (d :: e :: f :: ds) 2 = some f := by
  show (L2.ixN (ds.length + 1 + 1 + 1) 2).bind _ = _
  unfold L2.ixN
  have h : (2 : Int) < (ds.length : Int) + 1 + 1 + 1 := by omega
  simp [h]
theorem lt_ediv {k : Nat} {a m : Int} (h : Lt k a) : Lt k (a / m) := by
  unfold Lt at *
  exact Nat.lt_of_le_of_lt (Int.natAbs_ediv_le_natAbs _ _) h
theorem divm {a m : Int} (S : Store) (h1 : 0 < m) (h2 : m < 1073741824) : evBi2 .divmod S (.v (.int a)) (.v (.int m)) = .ok (.v (.tup [.int (a / m), .int (a % m)])) S := by
  show (if (decide (0 < m) && decide (m < 1073741824)) = true then _ else _) = _
  rw [decide_eq_true h1, decide_eq_true h2]
  rfl
theorem asT_sb {n : Nat} {j k : Nat} {i : Int} {d : D} {ρ : Env} {ds : List D} {e : E} (h1 : ρ[j]? = some (some (.ref n))) (h2 : evE C call e ρ S = .ok (.v (.int i)) S) (h3 : S[n]? = some (.lst ds)) (h4 : ixD ds.length i = some k) : asT C call (.sb (.var j) e) d ρ S = .ok ρ (S.set n (.lst (ds.set k d))) := by
  rw [asT, e_var, h1]
  show (evE C call e ρ S).bind _ = _
  rw [h2]
  show (match S[n]? with | some (.lst ds) => Q.opt (ixD ds.length i) fun j => Res.ok ρ (S.set n (.lst (ds.set j d))) | _ => .bad) = _
  rw [h3]
  dsimp only
  rw [h4]
  rfl
theorem int_int (S : Store) (i : Int) : evBi1 .int S (.v (.int i)) = .ok (.v (.int i)) S := rfl
/-- a roll: below the total -/
def SRoll (C : Q.Ctx) (d i : Nat) : Prop := (∀ a b, Q.fill C i [a, b] = some [a, b]) ∧ ∀ n S (m : Int) j c, Dice S j c → 0 < m → m < 1000 → c ≤ 1000000 → ∃ r S', evCall C (n + d) i [.ref j, .int m] S = .ok (.v (.int r)) S' ∧ 0 ≤ r ∧ r < m ∧ Ext j S S' ∧ Dice S' j (c + 1)
theorem set_at {S : Store} {n : Nat} {x : Cell} (h : n < S.length) : (S.set n x)[n]? = some x := List.getElem?_set_self h
theorem Ext.set {S : Store} {n : Nat} {x : Cell} : Ext n S (S.set n x) := ⟨by rw [List.length_set]; exact Nat.le_refl _, fun i hi hn => by rw [List.getElem?_set_ne (Ne.symm hn)]⟩
theorem roll_spec {i : Nat} (h : C.fns[i]? = some F_law_roll) : SRoll C 1 i := by
  refine ⟨fun a b => fill_of h rfl, fun n S m j c hD h1 h2 hc => ?_⟩
  have hj := hD.lt
  obtain ⟨a, s, t, e, ha, hs, ht, htc, la, ls⟩ := hD
  by_cases hp : 0 < a
  · have w1 : asT C (evCall C n) (.tp (.cons (.sb (.var 0) (.int 0)) (.cons (.nm 4) .nil))) (.tup [.int (a / m), .int (a % m)]) [some (.ref j), some (.int m), none, none, none] S = .ok [some (.ref j), some (.int m), none, none, some (.int (a % m))] (S.set j (.lst [.int (a / m), .int s, .int t])) := by
      have := asT_sb (C := C) (call := evCall C n) (S := S) (n := j) (j := 0) (k := 0) (i := 0) (d := .int (a / m)) (ρ := [some (.ref j), some (.int m), none, none, none]) (e := .int 0) rfl (by simp) e rfl
      rw [asT]
      simp [-as_nm, -as_tp, -as_sb, asT_nm, tupOf, uncons, Ts.len, this]
    refine ⟨a % m, ?_⟩
    obtain ⟨S2, e2, x2, d2⟩ := ev_dice (m := n) (n := j) (c := c + 1) (S' := S.set j (.lst [.int (a / m), .int s, .int t])) (d := .int (a % m)) (ds := [.ref j, .int m]) h rfl (fun _ z => nomatch z) hj (by
      show evSs C (evCall C n) t_law_roll [some (.ref j), some (.int m), none, none, none] S = _
      simp [-as_nm, -as_tp, -as_sb, t_law_roll, ix_ref S j _ _ e, hp, divm S h1 (by omega : m < 1073741824), calm, w1, int_int]) .set ⟨a / m, s, t, set_at hj, Int.ediv_nonneg ha (by omega), hs, ht, by omega, lt_ediv la, ls⟩
    exact ⟨S2, e2, Int.emod_nonneg _ (by omega), Int.emod_lt_of_pos _ h1, x2, d2⟩
  · have h0 : a = 0 := by omega
    subst h0
    have w1 : asT C (evCall C n) (.sb (.var 0) (.int 2)) (.int (t + 1)) [some (.ref j), some (.int m), none, none, none] S = .ok [some (.ref j), some (.int m), none, none, none] (S.set j (.lst [.int 0, .int s, .int (t + 1)])) := 
      asT_sb (C := C) (call := evCall C n) (S := S) (n := j) (j := 0) (k := 2) (i := 2) (d := .int (t + 1)) (ρ := [some (.ref j), some (.int m), none, none, none]) (e := .int 2) rfl (by simp) e rfl
    have e2 : (S.set j (.lst [.int 0, .int s, .int (t + 1)]))[j]? = some (.lst [.int 0, .int s, .int (t + 1)]) := set_at hj
    generalize hS1 : S.set j (.lst [.int 0, .int s, .int (t + 1)]) = S1 at *
    have lt1 : Lt 30 (t + 1) := by unfold Lt; omega
    have m1 := mul_int S1 67867967 (t + 1) (mulOk_of (k := 30) (l := 30) (by unfold Lt; decide) lt1 (by decide))
    have d1 := mod_int S1 (s + 67867967 * (t + 1)) 2305843009213693613 (by decide)
    generalize hone : (s + 67867967 * (t + 1)).fmod 2305843009213693613 = one at *
    have one0 : 0 ≤ one := by rw [← hone]; exact Int.fmod_nonneg_of_pos _ (by decide)
    have one1 : one < 2305843009213693613 := by rw [← hone]; exact Int.fmod_lt_of_pos _ (by decide)
    have lone : Lt 62 one := by unfold Lt; omega
    have m2 := mul_int S1 one one (mulOk_of lone lone (by decide))
    have m3 := mul_int S1 211 (t + 1) (mulOk_of (k := 30) (l := 30) (by unfold Lt; decide) lt1 (by decide))
    have d2 := mod_int S1 (one * one + 211 * (t + 1)) 2305843009213693487 (by decide)
    generalize htwo : (one * one + 211 * (t + 1)).fmod 2305843009213693487 = two at *
    have two0 : 0 ≤ two := by rw [← htwo]; exact Int.fmod_nonneg_of_pos _ (by decide)
    have two1 : two < 2305843009213693487 := by rw [← htwo]; exact Int.fmod_lt_of_pos _ (by decide)
    have ltwo : Lt 62 two := by unfold Lt; omega
    have m4 := mul_int S1 two 49979693 (mulOk_of (l := 30) ltwo (by unfold Lt; decide) (by decide))
    have d3 := div_int S1 (two * 49979693 + one) 70001 (divOk_of (k := 30) (by decide) (by unfold Lt; decide) (by decide))
    have d4 := mod_int S1 ((two * 49979693 + one).fdiv 70001) m (by omega)
    refine ⟨((two * 49979693 + one).fdiv 70001).fmod m, ?_⟩
    obtain ⟨S2, e3, x2, dd⟩ := ev_dice (m := n) (n := j) (c := c + 1) (S' := S1) (d := .int (((two * 49979693 + one).fdiv 70001).fmod m)) (ds := [.ref j, .int m]) h rfl (fun _ z => nomatch z) hj (by
      show evSs C (evCall C n) t_law_roll [some (.ref j), some (.int m), none, none, none] S = _
      simp [-as_nm, -as_tp, -as_sb, asT_nm, t_law_roll, ix_ref S j _ _ e, ix_ref S1 j _ _ e2, at2, calm, w1, int_int, m1, d1, m2, m3, d2, m4, d3, d4]) (by rw [← hS1]; exact .set) ⟨0, s, t + 1, e2, by decide, hs, by omega, by omega, la, ls⟩
    exact ⟨S2, e3, Int.fmod_nonneg_of_pos _ h1, Int.fmod_lt_of_pos _ h1, x2, dd⟩
end
end Q
end
section
-- N17
set_option Elab.async false
set_option linter.all false
set_option maxRecDepth 100000
namespace Q
open PySem (Str Operator CmpOp BoolOp PyData Paired)
section
variable {C : Q.Ctx} {call : Nat → List D → Store → Res R} {S : Store}
/-! ### draws -/
/-- a comprehension whose items change the store -/
theorem lc_state {α : Type} {f : α → D} {elt : E} {tg : T} {it : It} {k : Nat} {ρ : Env} {l : List α} {S0 : Store} (P : D → Prop) (R : Nat → Store → Prop) (hI : evI C call it ρ S0 = .ok (.its (l.map f)) S) (h0 : R 0 S)
    (h : ∀ a ∈ l, ∀ i S, i < l.length → R i S → ∃ ρ' x S', asT C call tg (f a) (Q.wipe ρ tg.slots) S = .ok ρ' S ∧ evE C call elt ρ' S = .ok (.v x) S' ∧ P x ∧ R (i + 1) S') :
    ∃ xs S', evE C call (.lc elt tg it .no k) ρ S0 = .ok (.t xs) S' ∧ xs.length = l.length ∧ (∀ x ∈ xs, P x) ∧ R l.length S' := by
  have key : ∀ (m : List α) (i : Nat) (acc : List D) (S : Store), (∀ a ∈ m, a ∈ l) → i + m.length = l.length → R i S → ∃ xs S', overL (stepOf C call elt tg .no ρ) (m.map f) acc S = .ok (acc ++ xs) S' ∧ xs.length = m.length ∧ (∀ x ∈ xs, P x) ∧ R l.length S' := by
    intro m
    induction m with
    | nil =>
      intro i acc S _ hi r
      refine ⟨[], S, ?_, rfl, fun x hx => by simp at hx, ?_⟩
      · rw [List.map_nil, overL, List.append_nil]
      · simp at hi
        rw [← hi]
        exact r
    | cons a rest ih =>
      intro i acc S hm hi r
      rw [List.length_cons] at hi
      obtain ⟨ρ', x, S', h1, h2, h3, h4⟩ := h a (hm a List.mem_cons_self) i S (by omega) r
      obtain ⟨xs, S2, e, l2, p2, r2⟩ := ih (i + 1) (acc ++ [x]) S' (fun b hb => hm b (List.mem_cons_of_mem _ hb)) (by omega) h4
      refine ⟨x :: xs, S2, ?_, by rw [List.length_cons, List.length_cons, l2], fun y hy => ?_, r2⟩
      · have s1 : stepOf C call elt tg .no ρ (f a) S = .ok (some x) S' := by
          unfold stepOf
          simp only [h1, Res.bind_ok, evC, if_true, h2, settle_v]
        rw [List.map_cons, overL, s1]
        dsimp only [Res.bind_ok]
        rw [e, List.append_assoc]
        rfl
      · rcases List.mem_cons.mp hy with z | z
        · rw [z]; exact h3
        · exact p2 y z
  obtain ⟨xs, S', e, h1, h2, h3⟩ := key l 0 [] S (fun _ z => z) (by omega) h0
  refine ⟨xs, S', ?_, h1, h2, h3⟩
  rw [evE, hI]
  show (calm (overL (stepOf C call elt tg .no ρ) (l.map f) [] S)).bind _ = _
  rw [e]
  rfl
/-- a loop over a list of the store that stays -/
theorem forV_typed {turn : D → Env → Store → Res Fl} {n : Nat} {ds : List D} (hS : S[n]? = some (.lst ds)) (R : List D → Env → Prop) (h : ∀ done d rest ρ, ds = done ++ d :: rest → R done ρ → ∃ ρ', turn d ρ S = .ok (.nx ρ') S ∧ R (done ++ [d]) ρ') :
    ∀ (f i : Nat) (ρ : Env), i + f = ds.length → R (ds.take i) ρ → ∃ ρ', forV turn n f i ρ S = .ok (.nx ρ') S ∧ R ds ρ'
  | 0, i, ρ, e, r => by
    refine ⟨ρ, ?_, by rw [List.take_of_length_le (by omega)] at r; exact r⟩
    rw [forV, hS]
    dsimp only
    rw [List.getElem?_eq_none (by omega)]
  | f + 1, i, ρ, e, r => by
    have hi : i < ds.length := by omega
    have ed : ds = ds.take i ++ ds[i] :: ds.drop (i + 1) := by
      rw [← List.drop_eq_getElem_cons hi, List.take_append_drop]
    obtain ⟨ρ', e1, r1⟩ := h (ds.take i) ds[i] (ds.drop (i + 1)) ρ ed r
    obtain ⟨ρ2, e2, r2⟩ := forV_typed hS R h f (i + 1) ρ' (by omega) (by rw [List.take_add_one, List.getElem?_eq_getElem hi]; exact r1)
    refine ⟨ρ2, ?_, r2⟩
    rw [forV, hS]
    dsimp only
    rw [List.getElem?_eq_getElem hi]
    dsimp only
    rw [e1]
    exact e2
theorem overV_map {step : D → Store → Res (Option D)} {n : Nat} {ds : List D} {g : D → D} (hS : S[n]? = some (.lst ds)) (h : ∀ d ∈ ds, step d S = .ok (some (g d)) S) : ∀ (f i : Nat) (acc : List D), i + f = ds.length → overV step n f i acc S = .ok (acc ++ (ds.drop i).map g) S
  | 0, i, acc, e => by
    rw [overV, hS]
    dsimp only
    rw [List.getElem?_eq_none (by omega)]
    dsimp only
    rw [List.drop_of_length_le (by omega)]
    simp
  | f + 1, i, acc, e => by
    have hi : i < ds.length := by omega
    rw [overV, hS]
    dsimp only
    rw [List.getElem?_eq_getElem hi]
    dsimp only
    rw [h _ (List.getElem_mem hi)]
    dsimp only [Res.bind_ok]
    rw [overV_map hS h f (i + 1) _ (by omega), List.drop_eq_getElem_cons hi, List.map_cons, List.append_assoc]
    rfl
theorem evI_live {e : E} {ρ : Env} {n : Nat} {ds : List D} (h : evE C call e ρ S = .ok (.v (.ref n)) S) (hS : S[n]? = some (.lst ds)) : evI C call (.seq e) ρ S = .ok (.live n) S := by
  rw [evI, h]
  simp only [Res.bind_ok, iterOf, hS, opt_some]
theorem lc_live {elt : E} {tg : T} {e : E} {k n : Nat} {ρ : Env} {ds : List D} {g : D → D} (he : evE C call e ρ S = .ok (.v (.ref n)) S) (hS : S[n]? = some (.lst ds))
    (h : ∀ d ∈ ds, ∃ ρ', asT C call tg d (Q.wipe ρ tg.slots) S = .ok ρ' S ∧ evE C call elt ρ' S = .ok (.v (g d)) S) : evE C call (.lc elt tg (.seq e) .no k) ρ S = .ok (.t (ds.map g)) S := by
  have key := overV_map (S := S) (n := n) (ds := ds) (g := g) (step := fun d S => (asT C call tg d (Q.wipe ρ tg.slots) S).bind fun ρ S => (evC C call .no ρ S).bind fun k S =>
        if k then (evE C call elt ρ S).bind fun y S => Q.settle y S fun d S => .ok (some d) S else .ok none S) hS (fun d hd => by
    obtain ⟨ρ', h1, h2⟩ := h d hd
    simp only [h1, Res.bind_ok, evC, if_true, h2, settle_v]) ds.length 0 [] (by omega)
  rw [evE, evI_live he hS]
  simp only [Res.bind_ok, over, hS, key, calm_ok, List.nil_append, List.drop_zero]
theorem s_live {t : T} {e : E} {b : Ss} {ρ : Env} {n : Nat} {ds : List D} (he : evE C call e ρ S = .ok (.v (.ref n)) S) (hS : S[n]? = some (.lst ds)) : evS C call (.for t (.seq e) b) ρ S = forV (fun d ρ S => (calm (asT C call t d ρ S)).bind fun ρ S => evSs C call b ρ S) n ds.length 0 ρ S := by
  rw [evS, evI_live he hS]
  simp only [Res.bind_ok, forI, hS]
/-- drawing: a value that P holds of, by at most K rolls -/
structure SDraw (C : Q.Ctx) (d i K : Nat) (args : List D) (P : D → Prop) : Prop where
  fill : ∀ a, Q.fill C i (a :: args) = some (a :: args)
  run : ∀ n S j c, Dice S j c → c + K ≤ 1000000 → ∃ x S', evCall C (n + d) i (.ref j :: args) S = .ok (.v x) S' ∧ P x ∧ Ext j S S' ∧ Dice S' j (c + K)
theorem Ext.push {n : Nat} {S : Store} {x : Cell} : Ext n S (S ++ [x]) := ⟨by simp, fun i hi _ => by rw [List.getElem?_append_left hi]⟩
theorem Dice.push {n c : Nat} {S : Store} {x : Cell} (h : Dice S n c) : Dice (S ++ [x]) n c := by
  have hl := h.lt
  obtain ⟨a, s, t, h1, h2⟩ := h
  exact ⟨a, s, t, by rw [List.getElem?_append_left hl]; exact h1, h2⟩
theorem len_ref (S : Store) (n : Nat) (ds : List D) (h : S[n]? = some (.lst ds)) : evBi1 .len S (.v (.ref n)) = .ok (.v (.int ds.length)) S := by
  unfold evBi1 seqOf
  dsimp only
  rw [h]
theorem atD_nat {ds : List D} {r : Nat} (h : r < ds.length) : atD ds (r : Int) = some ds[r] := by
  show (L2.ixN ds.length (r : Int)).bind _ = _
  unfold L2.ixN
  have h1 : (0 : Int) ≤ (r : Int) := by omega
  have h2 : (r : Int) < (ds.length : Int) := by omega
  simp [h2, List.getElem?_eq_getElem h]
theorem pick_spec {i a d : Nat} (h : C.fns[i]? = some (F_law_pick a)) (ha : SRoll C d a) : (∀ x y, Q.fill C i [x, y] = some [x, y]) ∧ ∀ n S j c m ds, Dice S j c → c + 1 ≤ 1000000 → S[m]? = some (.lst ds) → m ≠ j → ds ≠ [] → ds.length < 1000 → (∀ x ∈ ds, ∀ k, x ≠ .ref k) →
    ∃ x S', x ∈ ds ∧ evCall C (n + (d + 1)) i [.ref j, .ref m] S = .ok (.v x) S' ∧ Ext j S S' ∧ Dice S' j (c + 1) := by
  refine ⟨fun x y => fill_of h rfl, fun n S j c m ds hD hc hm hne h0 hl hr => ?_⟩
  have hj := hD.lt
  have hm' := (List.getElem?_eq_some_iff.mp hm).1
  obtain ⟨r, S1, e1, r0, r1, x1, d1⟩ := ha.2 n S ds.length j c hD (by
    cases ds with
    | nil => exact absurd rfl h0
    | cons _ _ => rw [List.length_cons]; omega) (by omega) (by omega)
  obtain ⟨k, rfl⟩ : ∃ k : Nat, r = k := ⟨r.toNat, by omega⟩
  have hk : k < ds.length := by omega
  have e2 : S1[m]? = some (.lst ds) := by rw [x1.at_ m hm' hne]; exact hm
  obtain ⟨S2, e3, x3, d3⟩ := ev_dice (m := n + d) (n := j) (c := c + 1) (S' := S1) (d := ds[k]) (ds := [.ref j, .ref m]) h rfl (hr _ (List.getElem_mem hk)) hj (by
    show evSs C (evCall C (n + d)) (t_law_pick a) [some (.ref j), some (.ref m)] S = _
    simp [t_law_pick, len_ref S m ds hm, ha.1, e1, ix_ref S1 m ds _ e2, atD_nat hk]) x1 d1
  exact ⟨ds[k], S2, List.getElem_mem hk, e3, x3, d3⟩
end
end Q
end
section
-- N18
set_option Elab.async false
set_option linter.all false
set_option maxRecDepth 100000
namespace Q
open PySem (Str Operator CmpOp BoolOp PyData Paired)
/-! ### laws about errors: tables, words, draws -/
theorem tbls_ext : ∀ {T S S' : Store}, tblsOk T S = true → (∀ i, i < T.length → S'[i]? = S[i]?) → tblsOk T S' = true
  | [], _, _, _, _ => by unfold tblsOk; rfl
  | .tbl q :: T, .tbl p :: S, S', h, e => by
    have e0 := e 0 (by simp)
    cases S' with
    | nil => simp at e0
    | cons c S' =>
      simp at e0
      subst e0
      have h : (q == p && tblsOk T S) = true := h
      rw [Bool.and_eq_true] at h
      show (q == p && tblsOk T S') = true
      rw [Bool.and_eq_true]
      exact ⟨h.1, tbls_ext h.2 fun i hi => by simpa using e (i + 1) (by simpa using hi)⟩
  | .tbl q :: T, [], _, h, _ => by cases h
  | .tbl q :: T, .lst _ :: S, _, h, _ => by cases h
  | .tbl q :: T, .dct _ :: S, _, h, _ => by cases h
  | .tbl q :: T, .ins _ _ :: S, _, h, _ => by cases h
  | .lst _ :: T, _, _, h, _ => by cases h
  | .dct _ :: T, _, _, h, _ => by cases h
  | .ins _ _ :: T, _, _, h, _ => by cases h
theorem tbls_len : ∀ {T S : Store}, tblsOk T S = true → T.length ≤ S.length
  | [], _, _ => Nat.zero_le _
  | .tbl q :: T, .tbl p :: S, h => by
    have h : (q == p && tblsOk T S) = true := h
    rw [Bool.and_eq_true] at h
    have := tbls_len h.2
    simp
    omega
  | .tbl q :: T, [], h => by cases h
  | .tbl q :: T, .lst _ :: S, h => by cases h
  | .tbl q :: T, .dct _ :: S, h => by cases h
  | .tbl q :: T, .ins _ _ :: S, h => by cases h
  | .lst _ :: T, _, h => by cases h
  | .dct _ :: T, _, h => by cases h
  | .ins _ _ :: T, _, h => by cases h
/-- the state of a draw -/
structure Drw (C : Q.Ctx) (j c : Nat) (S : Store) : Prop where
  dice : Dice S j c
  ok : tblsOk C.tbls S = true
  lt : C.tbls.length ≤ j
section
variable {C : Q.Ctx} {call : Nat → List D → Store → Res R} {S : Store} {ρ : Env}
theorem Drw.ext {j c c' : Nat} {S' : Store} (h : Drw C j c S) (e : Ext j S S') (d : Dice S' j c') : Drw C j c' S' :=
  ⟨d, tbls_ext h.ok fun i hi => e.at_ i (Nat.lt_of_lt_of_le hi (tbls_len h.ok)) (by have := h.lt; omega), h.lt⟩
theorem Drw.app {j c : Nat} {x : Cell} (h : Drw C j c S) : Drw C j c (S ++ [x]) := by
  refine ⟨?_, tbls_ext h.ok fun i hi => List.getElem?_append_left (Nat.lt_of_lt_of_le hi (tbls_len h.ok)), h.lt⟩
  have lt := h.dice.lt
  obtain ⟨a, s, t, e, r⟩ := h.dice
  exact ⟨a, s, t, by rw [List.getElem?_append_left lt]; exact e, r⟩
theorem ss_nx {s : Q.S} {r : Ss} {ρ ρ' : Env} {S S' : Store} (h : evS C call s ρ S = .ok (.nx ρ') S') : evSs C call (.cons s r) ρ S = evSs C call r ρ' S' := by
  rw [evSs, h]
  rfl
theorem ss_rt {s : Q.S} {r : Ss} {ρ : Env} {S S' : Store} {x : R} (h : evS C call s ρ S = .ok (.rt x) S') : evSs C call (.cons s r) ρ S = .ok (.rt x) S' := by
  rw [evSs, h]
  rfl
theorem bool_int (S : Store) (b : Bool) : evBi1 .int S (.v (.bl b)) = .ok (.v (.int (if b then 1 else 0))) S := rfl
/-- one of a list is picked -/
theorem pick_step {n d p a j c k : Nat} {e : E} {ds : List D} (h : C.fns[p]? = some (F_law_pick a)) (ha : SRoll C d a) (h0 : ρ[0]? = some (some (.ref j))) (T : Drw C j c S) (he : evE C (evCall C (n + (d + 1))) e ρ S = .ok (.t ds) S) (hc : c + 1 ≤ 1000000) (hne : ds ≠ []) (hl : ds.length < 1000) (hr : ∀ x ∈ ds, ∀ k, x ≠ .ref k) :
    ∃ x S', x ∈ ds ∧ evS C (evCall C (n + (d + 1))) (.asg (.nm k) (.call p (.cons (.var 0) (.cons e .nil)))) ρ S = .ok (.nx (ρ.set k (some x))) S' ∧ Drw C j (c + 1) S' ∧ ∀ i, i < S.length → i ≠ j → S'[i]? = S[i]? := by
  have lt := T.dice.lt
  have T1 := T.app (x := .lst ds)
  obtain ⟨f1, f2⟩ := pick_spec h ha
  obtain ⟨x, S', hx, e1, x1, d1⟩ := f2 n (S ++ [.lst ds]) j c S.length ds T1.dice hc (by simp) (by omega) hne hl hr
  refine ⟨x, S', hx, ?_, T1.ext x1 d1, fun i hi hn => ?_⟩
  · simp only [s_asg, e_call, evEs, e_var, h0, Res.bind_ok, settle_v, he, settle_t, f1, opt_some, e1, asT_nm, calm]
  · rw [x1.at_ i (by simp; omega) hn, List.getElem?_append_left hi]
/-- a call that sees the tables alone -/
def seesB (C : Q.Ctx) (b : Bool) : Res R → Bool
  | .ok (.v (.bl x)) S' => x == b && tblsOk C.tbls S'
  | _ => false
theorem callF_bl {f : Nat} {es : Es} {ds : List D} {b : Bool} (he : evEs C call es ρ S = .ok ds S) (hf : Q.fill C f ds = some ds) (hl : ds.all (lowD 0 66) = true) (ht : tblsOk C.tbls S = true) (hb : seesB C b (call f ds C.tbls) = true) : evE C call (.callF f es) ρ S = .ok (.v (.bl b)) S := by
  rw [evE, he, Res.bind_ok, hf, opt_some, hl, ht]
  cases hc : call f ds C.tbls with
  | bad => rw [hc] at hb; cases hb
  | err x S' => rw [hc] at hb; cases hb
  | ok r S' =>
    rw [hc] at hb
    cases r with
    | t es => cases hb
    | v d =>
      cases d with
      | bl x =>
        have hb : (x == b && tblsOk C.tbls S') = true := hb
        rw [Bool.and_eq_true] at hb
        have hx := eq_of_beq hb.1
        subst hx
        unfold aside
        simp [hb.2, lowD]
      | _ => cases hb
/-- the word of a lambda, by what it captured -/
def wv (C : Q.Ctx) (call : Nat → List D → Store → Res R) (w : Wrd) (j : Nat) (ds : List D) : Option Str := if ds.all (lowD 0 66) then match call (C.fns.length + j) ds C.tbls with
    | .ok r S' => if tblsOk C.tbls S' && (match r with | .v d => lowD 0 66 d | .t es => es.all (lowD 0 66)) then some w.fine else none
    | .err x S' => if tblsOk C.tbls S' && (match x.val with | none => true | some d => lowD 0 66 d) then evHs w.hs x else none
    | .bad => none
  else none
theorem word_of {w : Wrd} {j : Nat} {L : Lam} {ds : List D} {y : Str} (hL : C.lams[j]? = some L) (hs : slotsOf ρ L.is = some ds) (ht : tblsOk C.tbls S = true) (h : wv C call w j ds = some y) : word C call w ρ S j = .ok (.v (.str y)) S := by
  unfold wv at h
  split at h
  case isFalse => cases h
  rename_i hl
  unfold word
  rw [hL, opt_some, hs, opt_some, hl, ht]
  cases hc : call (C.fns.length + j) ds C.tbls with
  | bad => rw [hc] at h; cases h
  | ok r S' =>
    rw [hc] at h
    cases r with
    | v d =>
      dsimp only at h
      split at h
      case isFalse => cases h
      rename_i h2
      rw [Bool.and_eq_true] at h2
      cases h
      simp [aside, h2.1, h2.2]
    | t es =>
      dsimp only at h
      split at h
      case isFalse => cases h
      rename_i h2
      rw [Bool.and_eq_true] at h2
      cases h
      have h3 : es.all (lowD 0 66) = true := h2.2
      unfold aside
      dsimp only
      rw [if_pos h2.1, h3]
      rfl
  | err x S' =>
    rw [hc] at h
    dsimp only at h
    cases hv : x.val with
    | none =>
      rw [hv] at h
      dsimp only at h
      split at h
      case isFalse => cases h
      rename_i h2
      rw [Bool.and_eq_true] at h2
      simp [aside, h2.1, hv, h]
    | some d =>
      rw [hv] at h
      dsimp only at h
      split at h
      case isFalse => cases h
      rename_i h2
      rw [Bool.and_eq_true] at h2
      simp [aside, h2.1, hv, h2.2, h]
theorem words_of {w : Wrd} {js : List Nat} {ys : List Str} (h : Paired (fun j y => word C call w ρ S j = .ok (.v (.str y)) S) js ys) : wordsL C call w ρ S js = .ok (ys.map D.str) S := by
  induction h with
  | nil => rw [wordsL]; rfl
  | cons r _ ih =>
    rw [wordsL, r]
    dsimp only
    rw [ih]
    rfl
theorem e_words {wi i x k : Nat} {w : Wrd} {js : List Nat} {ys : List Str} (hw : C.wrds[wi]? = some w) (hi : ρ[i]? = some (some (.clos js))) (h : Paired (fun j y => word C call w ρ S j = .ok (.v (.str y)) S) js ys) : evE C call (.words wi i x k) ρ S = .ok (.t (ys.map D.str)) S := by
  rw [evE, hw, opt_some, hi]
  dsimp only
  rw [words_of h]
  rfl
theorem s_clos {i : Nat} {js : List Nat} (ht : tblsOk C.tbls S = true) : evS C call (.clos i js) ρ S = .ok (.nx (ρ.set i (some (.clos js)))) S := by
  rw [evS, if_pos ht]
end
end Q
end
section
-- N19
set_option Elab.async false
set_option linter.all false
set_option maxRecDepth 100000
namespace Q
open PySem (Str Operator CmpOp BoolOp PyData Paired)
section
variable {C : Q.Ctx} {call : Nat → List D → Store → Res R} {S : Store}
theorem pow_int (S : Store) {i j : Int} (h0 : 0 ≤ j) (h1 : j ≤ 1000) (h2 : i.natAbs.log2 < 1000) : evBin .Pow S (.v (.int i)) (.v (.int j)) = .ok (.v (.int (i ^ j.toNat))) S := by
  show (if (decide (0 ≤ j) && decide (j ≤ 1000) && Nat.blt i.natAbs.log2 1000) = true then _ else _) = _
  rw [if_pos]
  rw [decide_eq_true h0, decide_eq_true h1, Nat.blt_eq.mpr h2]
  rfl
theorem max_int (S : Store) (i j : Int) : evBi2 .max S (.v (.int i)) (.v (.int j)) = .ok (.v (.int (if j > i then j else i))) S := rfl
theorem min_int (S : Store) (i j : Int) : evBi2 .min S (.v (.int i)) (.v (.int j)) = .ok (.v (.int (if j < i then j else i))) S := rfl
def big329 : Int := (10 ^ 47) ^ 7
/-- the dice of a script's cell -/
theorem dice_spec {i : Nat} (h : C.fns[i]? = some F_law_dice) (ns : List Int) (k : Nat) (hk : k < 5) : Q.fill C i [.fl (ns.map .int), .int k] = some [.fl (ns.map .int), .int k] ∧ ∀ n S, ∃ a s : Int, evCall C (n + 1) i [.fl (ns.map .int), .int k] S = .ok (.t [.int a, .int s, .int 0]) S ∧ 0 ≤ a ∧ 0 ≤ s ∧ Lt 2000 a ∧ Lt 200 s := by
  refine ⟨fill_of h rfl, fun n S => ?_⟩
  have cell : ∃ c : Int, evE C (evCall C n) (.ife (.cmp .Lt (.var 1) (.bi1 .len (.var 0))) (.bi1 .int (.idx (.var 0) (.var 1))) (.bin .Add (.bin .Mult (.int 173) (.var 1)) (.int 59))) [some (.fl (ns.map .int)), some (.int k), none, none, none] S = .ok (.v (.int c)) S := by
    by_cases hl : k < ns.length
    · have g : decide ((k : Int) < ((ns.map D.int).length : Int)) = true := decide_eq_true (by rw [List.length_map]; omega)
      refine ⟨ns[k], ?_⟩
      have at_ : atD (ns.map D.int) (k : Int) = some (.int ns[k]) := by rw [atD_nat (by rw [List.length_map]; exact hl), List.getElem_map]
      simp only [e_ife, e_cmp, e_bi1, e_idx, e_var, slot0, slotS, Res.bind_ok, len_fl, lt_int, g, opt_some, truth_bl, if_true, ix_fl, at_, int_int]
    · have g : decide ((k : Int) < ((ns.map D.int).length : Int)) = false := decide_eq_false (by rw [List.length_map]; omega)
      have m := mul_int S 173 (k : Int) (mulOk_of (k := 10) (l := 10) (by unfold Lt; decide) (by unfold Lt; omega) (by decide))
      exact ⟨173 * k + 59, by simp only [e_ife, e_cmp, e_bi1, e_bin, e_int, e_var, slot0, slotS, Res.bind_ok, len_fl, lt_int, g, opt_some, truth_bl, Bool.false_eq_true, if_false, m, add_int]⟩
  obtain ⟨c, cell⟩ := cell
  have p1 : evBin .Pow S (.v (.int 10)) (.v (.int 47)) = .ok (.v (.int (10 ^ 47))) S := pow_int S (by decide) (by decide) (by decide +kernel)
  have p2 : evBin .Pow S (.v (.int (10 ^ 47))) (.v (.int 7)) = .ok (.v (.int big329)) S := pow_int S (by decide) (by decide) (by decide +kernel)
  have p3 : evBin .Pow S (.v (.int 10)) (.v (.int 15)) = .ok (.v (.int (10 ^ 15))) S := pow_int S (by decide) (by decide) (by decide +kernel)
  have hb : (0 : Int) < big329 := by decide +kernel
  have lb : Lt 1999 big329 := by unfold Lt; decide +kernel
  have d1 := mod_int S (c.natAbs : Int) big329 (by omega)
  have g0 : 0 ≤ (c.natAbs : Int).fmod big329 := Int.fmod_nonneg_of_pos _ hb
  have g1 : (c.natAbs : Int).fmod big329 < big329 := Int.fmod_lt_of_pos _ hb
  generalize hg : (c.natAbs : Int).fmod big329 = g at *
  have lg : Lt 1999 g := by unfold Lt at *; omega
  have d2 := mod_int S g 2305843009213693669 (by decide)
  have t0 : 0 ≤ g.fmod 2305843009213693669 := Int.fmod_nonneg_of_pos _ (by decide)
  have t1 : g.fmod 2305843009213693669 < 2305843009213693669 := Int.fmod_lt_of_pos _ (by decide)
  generalize ht : g.fmod 2305843009213693669 = t at *
  have m1 := mul_int S t 89 (mulOk_of (k := 62) (l := 10) (by unfold Lt; omega) (by unfold Lt; decide) (by decide))
  have m2 := mul_int S 733 (k : Int) (mulOk_of (k := 10) (l := 10) (by unfold Lt; decide) (by unfold Lt; omega) (by decide))
  have m3 := mul_int S 43 (if decide (c < 0) = true then 1 else 0) (mulOk_of (k := 10) (l := 10) (by unfold Lt; decide) (by unfold Lt; split <;> decide) (by decide))
  refine ⟨if g - 10 ^ 15 > 0 then g - 10 ^ 15 else 0, t * 89 + 733 * k + 43 * (if decide (c < 0) = true then 1 else 0) + 29, ?_, by split <;> omega, by split <;> omega, ?_, ?_⟩
  · refine ev_pure h rfl ?_
    show evSs C (evCall C n) t_law_dice [some (.fl (ns.map .int)), some (.int k), none, none, none] S = _
    unfold t_law_dice
    rw [ss_nx (ρ' := [some (.fl (ns.map .int)), some (.int k), some (.int c), none, none]) (S' := S) (by
        simp only [s_asg, cell, Res.bind_ok, settle_v, asT_nm, calm]
        rfl),
      ss_nx (ρ' := [some (.fl (ns.map .int)), some (.int k), some (.int c), some (.int g), none]) (S' := S) (by
        simp only [s_asg, e_bin, e_bi1, e_var, e_int, slot0, slotS, Res.bind_ok, abs_int, abs_if, p1, p2, d1, settle_v, asT_nm, calm]
        rfl),
      ss_nx (ρ' := [some (.fl (ns.map .int)), some (.int k), some (.int c), some (.int g), some (.int (t * 89 + 733 * k + 43 * (if decide (c < 0) = true then 1 else 0) + 29))]) (S' := S) (by
        simp only [s_asg, e_bin, e_bi1, e_cmp, e_var, e_int, slot0, slotS, Res.bind_ok, lt_int, opt_some, bool_int, d2, m1, m2, m3, add_int, settle_v, asT_nm, calm]
        rfl)]
    simp only [evSs, s_ret, e_lst, evEs, e_bi2, e_bin, e_int, e_var, slot0, slotS, Res.bind_ok, p3, sub_int, max_int, settle_v]
  · unfold Lt at *
    split <;> omega
  · unfold Lt
    split <;> omega
end
end Q
end
section
-- K1
set_option Elab.async false
set_option linter.all false
set_option maxRecDepth 100000
set_option maxHeartbeats 1000000
namespace Q
open PySem (Str Operator CmpOp BoolOp PyData Paired)
/-! ### what needs no store -/
section
variable {S : Store}
theorem mapM_mono {α β : Type} {f g : α → Option β} : ∀ {l : List α} {r : List β}, (∀ a b, f a = some b → g a = some b) → l.mapM f = some r → l.mapM g = some r
  | [], r, _, e => e
  | a :: l, r, h, e => by
    rw [List.mapM_cons] at e ⊢
    cases h1 : f a with
    | none => rw [h1] at e; cases e
    | some b =>
      rw [h1] at e
      rw [h a b h1]
      cases h2 : l.mapM f with
      | none => rw [h2] at e; cases e
      | some bs =>
        rw [h2] at e
        rw [mapM_mono h h2]
        exact e
theorem py0 : ∀ (f : Nat) (d : D) (p : PyData), D.py [] f d = some p → D.py S f d = some p
  | 0, d, p, e => by cases e
  | f + 1, d, p, e => by
    cases d with
    | tup ds =>
      have e : (ds.mapM (D.py [] f)).map PyData.tuple = some p := e
      show (ds.mapM (D.py S f)).map PyData.tuple = some p
      cases h : ds.mapM (D.py [] f) with
      | none => rw [h] at e; cases e
      | some ps => rw [h] at e; rw [mapM_mono (py0 f) h]; exact e
    | fz ds =>
      have e : (ds.mapM (D.py [] f)).map PyData.list = some p := e
      show (ds.mapM (D.py S f)).map PyData.list = some p
      cases h : ds.mapM (D.py [] f) with
      | none => rw [h] at e; cases e
      | some ps => rw [h] at e; rw [mapM_mono (py0 f) h]; exact e
    | ref n => cases e
    | _ => exact e
theorem rpy0 {r : R} {p : PyData} (e : r.py [] = some p) : r.py S = some p := by
  cases r with
  | v d => exact py0 66 d p e
  | t ds =>
    have e : (ds.mapM (D.py [] 65)).map PyData.list = some p := e
    show (ds.mapM (D.py S 65)).map PyData.list = some p
    cases h : ds.mapM (D.py [] 65) with
    | none => rw [h] at e; cases e
    | some ps => rw [h] at e; rw [mapM_mono (py0 65) h]; exact e
theorem eqR0 {a b : R} {k : Bool} (e : eqR [] a b = some k) : eqR S a b = some k := by
  unfold eqR at e ⊢
  cases ha : a.py [] with
  | none => rw [ha] at e; cases e
  | some x =>
    cases hb : b.py [] with
    | none => rw [ha, hb] at e; cases e
    | some y =>
      rw [ha, hb] at e
      rw [rpy0 ha, rpy0 hb]
      exact e
theorem seq0 {r : R} {p : Bool × List D} (e : seqOf [] r = some p) : seqOf S r = some p := by
  cases r with
  | t ds => exact e
  | v d =>
    cases d with
    | ref n => cases e
    | _ => exact e
theorem truth0 {r : R} {k : Bool} (e : truth [] r = some k) : truth S r = some k := by
  cases r with
  | t ds => exact e
  | v d =>
    cases d with
    | ref n => cases e
    | _ => exact e
theorem ty0 {r : R} {t : Ty} {k : Bool} (e : tyIs [] r t = some k) : tyIs S r t = some k := by
  cases r with
  | t ds => exact e
  | v d =>
    cases d with
    | ref n => cases e
    | _ => exact e
theorem iter0 {r : R} {ds : List D} (e : iterOf [] r = some (.its ds)) : iterOf S r = some (.its ds) := by
  cases r with
  | t ds => exact e
  | v d =>
    cases d with
    | ref n => cases e
    | _ => exact e
theorem cmp0 {o : CmpOp} {a b : R} {k : Bool} (e : evCmp o [] a b = some k) : evCmp o S a b = some k := by
  cases o with
  | Eq => exact eqR0 e
  | NotEq =>
    have e : (eqR [] a b).map (!·) = some k := e
    show (eqR S a b).map (!·) = some k
    cases h : eqR [] a b with
    | none => rw [h] at e; cases e
    | some x => rw [h] at e; rw [eqR0 h]; exact e
  | In =>
    unfold evCmp at e ⊢
    dsimp only at e ⊢
    split at e
    · rename_i x p ys h
      rw [seq0 h]
      exact e
    · cases e
  | NotIn =>
    unfold evCmp at e ⊢
    dsimp only at e ⊢
    split at e
    · rename_i x p ys h
      rw [seq0 h]
      exact e
    · cases e
  | _ => exact e
/-- a result that leaves no store -/
def okR {α : Type} : Res α → Option α
  | .ok a _ => some a
  | _ => none
theorem okR_some {α : Type} {r : Res α} {a : α} (e : okR r = some a) : ∃ S, r = .ok a S := by
  cases r with
  | ok b S => cases e; exact ⟨S, rfl⟩
  | err x S => cases e
  | bad => cases e
theorem bin0 {o : Operator} {a b r : R} (e : okR (evBin o [] a b) = some r) : evBin o S a b = .ok r S := by
  have fin : ∀ {p : Prop} [Decidable p] {x : R}, okR (if p then Res.ok x ([] : Store) else .bad) = some r → (if p then Res.ok x S else .bad) = .ok r S := fun {p} _ {x} h => by
    split at h
    · rename_i hp
      cases h
      rw [if_pos hp]
    · cases h
  unfold evBin at e ⊢
  cases o with
  | Add =>
    dsimp only at e ⊢
    split at e
    · cases e; rfl
    · exact fin e
    · exact fin e
    · rename_i n1 n2 n3
      split at e
      · rename_i x y h1 h2
        rw [seq0 h1, seq0 h2]
        exact fin e
      · cases e
  | Mult =>
    dsimp only at e ⊢
    split at e
    · exact fin e
    · exact fin e
    · cases e
    · rename_i n1 n2 n3
      split at e
      · rename_i x h1
        rw [seq0 h1]
        exact fin e
      · cases e
    · cases e
  | Sub =>
    dsimp only at e ⊢
    split at e
    · cases e; rfl
    · cases e
  | FloorDiv =>
    dsimp only at e ⊢
    split at e
    · exact fin e
    · cases e
  | Mod =>
    dsimp only at e ⊢
    split at e
    · split at e
      · cases e
      · rename_i h
        cases e
        rw [if_neg h]
    · cases e
  | Pow =>
    dsimp only at e ⊢
    split at e
    · exact fin e
    · cases e
  | _ => cases e
theorem bi10 {b : Bi1} {a r : R} (e : okR (evBi1 b [] a) = some r) : evBi1 b S a = .ok r S := by
  unfold evBi1 at e ⊢
  cases b with
  | len =>
    dsimp only at e ⊢
    split at e
    · split at e
      · rename_i h
        cases e
        rw [if_pos h]
      · cases e
    · cases e; rfl
    · rename_i h1 h2
      split at e
      · rename_i p ds h
        cases e
        rw [seq0 h]
      · cases e
  | all =>
    dsimp only at e ⊢
    split at e
    · rename_i ds h
      rw [seq0 h]
      dsimp only
      split at e
      · rename_i bs h2
        cases e
        rfl
      · cases e
    · cases e
  | any =>
    dsimp only at e ⊢
    split at e
    · rename_i ds h
      rw [seq0 h]
      dsimp only
      split at e
      · rename_i bs h2
        cases e
        rfl
      · cases e
    · cases e
  | tuple =>
    dsimp only at e ⊢
    split at e
    · rename_i p ds h
      cases e
      rw [seq0 h]
    · cases e
  | list =>
    dsimp only at e ⊢
    split at e
    · rename_i p ds h
      cases e
      rw [seq0 h]
    · cases e
  | repr =>
    dsimp only at e ⊢
    unfold reprR at e ⊢
    cases h : a.py [] with
    | none => rw [h] at e; cases e
    | some p =>
      rw [h] at e
      rw [rpy0 h]
      cases h2 : reprOf p with
      | none =>
        rw [show (some p).bind reprOf = reprOf p from rfl, h2] at e
        cases e
      | some y =>
        rw [show (some p).bind reprOf = reprOf p from rfl, h2] at e ⊢
        cases e
        rfl
  | _ =>
    dsimp only at e ⊢
    split at e <;> first | (cases e; rfl) | cases e
theorem bi20 {b : Bi2} {a c r : R} (e : okR (evBi2 b [] a c) = some r) : evBi2 b S a c = .ok r S := by
  unfold evBi2 at e ⊢
  cases b with
  | divmod =>
    dsimp only at e ⊢
    split at e
    · split at e
      · rename_i h
        cases e
        rw [if_pos h]
      · cases e
    · cases e
  | _ =>
    dsimp only at e ⊢
    split at e <;> first | (cases e; rfl) | cases e
theorem item0 {a i : R} {d : D} (e : getItem [] a i = some d) : getItem S a i = some d := by
  unfold getItem at e ⊢
  split at e
  · split at e
    · exact e
    · rename_i h
      split at e
      · rename_i p ds h2
        rw [seq0 h2]
        exact e
      · cases e
  · cases e
theorem slice0 {a r : R} {lo hi : Option Int} (e : okR (getSlice [] a lo hi) = some r) : getSlice S a lo hi = .ok r S := by
  unfold getSlice at e ⊢
  split at e
  · rename_i ds h
    rw [seq0 h]
    cases e
    rfl
  · rename_i ds h
    rw [seq0 h]
    cases e
    rfl
  · cases e
theorem rev0 {a r : R} (e : okR (getRev [] a) = some r) : getRev S a = .ok r S := by
  unfold getRev at e ⊢
  split at e
  · rename_i ds h
    rw [seq0 h]
    cases e
    rfl
  · rename_i ds h
    rw [seq0 h]
    cases e
    rfl
  · cases e
theorem zip0 {a b : R} {ds : List D} (e : zipped [] a b = some ds) : zipped S a b = some ds := e
theorem enum0 {a : R} {ds : List D} (e : enumd [] a = some ds) : enumd S a = some ds := e
end
/-- what is frozen -/
def frzR : R → R
  | .t ds => .v (.fz ds)
  | r => r
theorem frzd_eq (r : R) (S : Store) : frzd r S = .ok (frzR r) S := by cases r <;> rfl
def oneV : R → Option D
  | .v d => some d
  | _ => none
/-- more may be known -/
structure Le (ρ ρ' : Env) : Prop where
  len : ρ.length = ρ'.length
  at_ : ∀ (i : Nat) d, ρ[i]? = some (some d) → ρ'[i]? = some (some d)
theorem Le.refl (ρ : Env) : Le ρ ρ := ⟨rfl, fun _ _ h => h⟩
theorem Le.trans {a b c : Env} (h : Le a b) (k : Le b c) : Le a c := ⟨h.len.trans k.len, fun i d e => k.at_ i d (h.at_ i d e)⟩
theorem Le.set {ρ ρ' : Env} (h : Le ρ ρ') (i : Nat) (o : Option D) : Le (ρ.set i o) (ρ'.set i o) := by
  refine ⟨by rw [List.length_set, List.length_set, h.len], fun j d e => ?_⟩
  by_cases z : i = j
  · subst z
    by_cases l : i < ρ.length
    · rw [List.getElem?_set_self l] at e
      rw [List.getElem?_set_self (by rw [← h.len]; exact l)]
      exact e
    · rw [List.getElem?_eq_none (by rw [List.length_set]; omega)] at e
      cases e
  · rw [List.getElem?_set_ne z] at e ⊢
    exact h.at_ j d e
theorem Le.drop {ρ ρ' : Env} (h : Le ρ ρ') (i : Nat) (o : Option D) : Le (ρ.set i none) (ρ'.set i o) := by
  refine ⟨by rw [List.length_set, List.length_set, h.len], fun j d e => ?_⟩
  by_cases z : i = j
  · subst z
    by_cases l : i < ρ.length
    · rw [List.getElem?_set_self l] at e
      cases e
    · rw [List.getElem?_eq_none (by rw [List.length_set]; omega)] at e
      cases e
  · rw [List.getElem?_set_ne z] at e ⊢
    exact h.at_ j d e
theorem Le.wipe {ρ ρ' : Env} (h : Le ρ ρ') : ∀ l : List Nat, Le (Q.wipe ρ l) (Q.wipe ρ' l)
  | [] => h
  | i :: r => (Le.wipe h r).set i none
theorem Le.wipe1 {ρ ρ' : Env} (h : Le ρ ρ') : ∀ l : List Nat, Le (Q.wipe ρ l) ρ'
  | [] => h
  | i :: r => by
    have ih := Le.wipe1 h r
    refine ⟨by show ((Q.wipe ρ r).set i none).length = _; rw [List.length_set, ih.len], fun j d e => ?_⟩
    obtain ⟨_, e⟩ := wipe_some (show ((Q.wipe ρ r).set i none)[j]? = some (some d) from e)
    exact ih.at_ j d e
section
variable (C : Q.Ctx) (call : Nat → List D → Store → Res R)
/-- a call that sees the tables alone -/
def pvF (f : Nat) (ds : List D) : Option R := (fill C f ds).bind fun ds => if ds.all (lowD 0 66) then match call f ds C.tbls with
    | .ok (.v d) S' => if tblsOk C.tbls S' && lowD 0 66 d then some (.v d) else none
    | .ok (.t es) S' => if tblsOk C.tbls S' && es.all (lowD 0 66) then some (.t es) else none
    | _ => none
  else none
def pvOver (step : D → Option (Option D)) : List D → Option (List D)
  | [] => some []
  | d :: r => (step d).bind fun o => (pvOver step r).map fun ds => match o with
    | some x => x :: ds
    | none => ds
def wordAt (w : Wrd) (j : Nat) (ρ : Env) : Option Str := (C.lams[j]?).bind fun L => (slotsOf ρ L.is).bind fun ds => wv C call w j ds
mutual
def pvE : E → Env → Option R
  | .non, _ => some (.v .non)
  | .bl b, _ => some (.v (.bl b))
  | .int i, _ => some (.v (.int i))
  | .str x, _ => some (.v (.str x))
  | .var i, ρ => match ρ[i]? with
    | some (some d) => some (.v d)
    | _ => none
  | .glb j, _ => (C.glb[j]?).map .v
  | .tup es, ρ => (pvEs es ρ).map fun ds => .v (.tup ds)
  | .lst es, ρ => (pvEs es ρ).map fun ds => .t ds
  | .flst es, ρ => (pvEs es ρ).map fun ds => .v (.fz ds)
  | .fdct, _ => some (.v .fd)
  | .flsc a, ρ => (pvE a ρ).bind fun x => (seqOf [] x).map fun p => .v (.fz p.2)
  | .bin o a b, ρ => (pvE a ρ).bind fun x => (pvE b ρ).bind fun y => okR (evBin o [] x y)
  | .fbin o a b, ρ => (pvE a ρ).bind fun x => (pvE b ρ).bind fun y => (okR (evBin o [] x y)).map frzR
  | .neg a, ρ => (pvE a ρ).bind fun x => match x with
    | .v (.int i) => some (.v (.int (-i)))
    | _ => none
  | .not a, ρ => (pvE a ρ).bind fun x => (truth [] x).map fun b => .v (.bl (!b))
  | .cmp o a b, ρ => (pvE a ρ).bind fun x => (pvE b ρ).bind fun y => (evCmp o [] x y).map fun c => .v (.bl c)
  | .chn o o' a b c, ρ => (pvE a ρ).bind fun x => (pvE b ρ).bind fun y => (evCmp o [] x y).bind fun k =>
      if k then (pvE c ρ).bind fun z => (evCmp o' [] y z).map fun k => .v (.bl k) else some (.v (.bl false))
  | .bop o es, ρ => pvBop o es ρ
  | .ife c a b, ρ => (pvE c ρ).bind fun x => (truth [] x).bind fun k => if k then pvE a ρ else pvE b ρ
  | .idx a i, ρ => (pvE a ρ).bind fun x => (pvE i ρ).bind fun y => (getItem [] x y).map .v
  | .slc a lo hi, ρ => (pvE a ρ).bind fun x => (pvB lo ρ).bind fun l => (pvB hi ρ).bind fun h => okR (getSlice [] x l h)
  | .fslc a lo hi, ρ => (pvE a ρ).bind fun x => (pvB lo ρ).bind fun l => (pvB hi ρ).bind fun h => (okR (getSlice [] x l h)).map frzR
  | .rev a, ρ => (pvE a ρ).bind fun x => okR (getRev [] x)
  | .bi1 b a, ρ => (pvE a ρ).bind fun x => okR (evBi1 b [] x)
  | .bi2 b a c, ρ => (pvE a ρ).bind fun x => (pvE c ρ).bind fun y => okR (evBi2 b [] x y)
  | .isi a t, ρ => (pvE a ρ).bind fun x => (tyIs [] x t).map fun b => .v (.bl b)
  | .callF f es, ρ => (pvEs es ρ).bind fun ds => pvF C call f ds
  | .fcall f es, ρ => (pvEs es ρ).bind fun ds => (pvF C call f ds).map frzR
  | .lc elt tg it c _, ρ => (pvI it ρ).bind fun ds => (pvOver (fun d => (pvT tg d (wipe ρ tg.slots)).bind fun ρ => (pvC c ρ).bind fun k =>
      if k then (pvE elt ρ).bind fun y => (oneV y).map some else some none) ds).map .t
  | .isiT _ _, _ => none
  | .call _ _, _ => none
  | .met _ _ _, _ => none
  | .dct0, _ => none
  | .words _ _ _ _, _ => none
  | .calv _ _, _ => none
  | .tidy _ _ _, _ => none
  | .lwd w j _, ρ => (C.wrds[w]?).bind fun W => (wordAt C call W j ρ).map fun y => .v (.str y)
  | .flc elt tg it c _, ρ => (pvI it ρ).bind fun ds => (pvOver (fun d => (pvT tg d (wipe ρ tg.slots)).bind fun ρ => (pvC c ρ).bind fun k =>
      if k then (pvE elt ρ).bind fun y => (oneV y).map some else some none) ds).map fun xs => .v (.fz xs)
  | .fld _ _, _ => none
  | .mth _ _ _, _ => none
  | .new _ _, _ => none
def pvEs : Es → Env → Option (List D)
  | .nil, _ => some []
  | .cons e r, ρ => (pvE e ρ).bind fun x => (oneV x).bind fun d => (pvEs r ρ).map fun ds => d :: ds
def pvBop : BoolOp → Es → Env → Option R
  | _, .nil, _ => none
  | o, .cons e r, ρ => match r with
    | .nil => pvE e ρ
    | .cons e' r' => (pvE e ρ).bind fun x => (truth [] x).bind fun k => match o with
      | .And => if k then pvBop o (.cons e' r') ρ else some x
      | .Or => if k then some x else pvBop o (.cons e' r') ρ
def pvB : Eo → Env → Option (Option Int)
  | .no, _ => some none
  | .so e, ρ => (pvE e ρ).bind fun x => match x with
    | .v (.int i) => some (some i)
    | _ => none
def pvC : Eo → Env → Option Bool
  | .no, _ => some true
  | .so e, ρ => (pvE e ρ).bind fun x => truth [] x
def pvT : T → D → Env → Option Env
  | .nm i, d, ρ => some (ρ.set i (some d))
  | .tp ts, d, ρ => (tupOf ts.len d).bind fun ds => pvTs ts ds ρ
  | .sb _ _, _, _ => none
  | .fa _ _, _, _ => none
def pvTs : Ts → List D → Env → Option Env
  | .nil, ds, ρ => if ds.isEmpty then some ρ else none
  | .cons t r, ds, ρ => (uncons ds).bind fun p => (pvT t p.1 ρ).bind fun ρ => pvTs r p.2 ρ
def pvI : It → Env → Option (List D)
  | .seq e, ρ => (pvE e ρ).bind fun x => (iterOf [] x).bind fun I => match I with
    | .its ds => some ds
    | .live _ => none
  | .rng1 a, ρ => (pvE a ρ).bind fun x => match x with
    | .v (.int i) => if rngOk i then some (range 0 i) else none
    | _ => none
  | .rng2 a b, ρ => (pvE a ρ).bind fun x => (pvE b ρ).bind fun y => match x, y with
    | .v (.int i), .v (.int j) => if rngOk i && rngOk j && decide (j - i ≤ 16777216) then some (range i j) else none
    | _, _ => none
  | .zip a b, ρ => (pvE a ρ).bind fun x => (pvE b ρ).bind fun y => zipped [] x y
  | .enum a, ρ => (pvE a ρ).bind fun x => enumd [] x
end
end
end Q
end
section
-- K2
set_option Elab.async false
set_option linter.all false
set_option maxRecDepth 100000
set_option maxHeartbeats 1000000
namespace Q
open PySem (Str Operator CmpOp BoolOp PyData Paired)
section
variable {C : Q.Ctx} {call : Nat → List D → Store → Res R} {S : Store}
theorem pvF_ok (ht : tblsOk C.tbls S = true) {f : Nat} {ds : List D} {r : R} (e : pvF C call f ds = some r) : (Q.opt (fill C f ds) fun ds => if ds.all (lowD 0 66) && tblsOk C.tbls S then aside C S (call f ds C.tbls) else .bad) = .ok r S := by
  unfold pvF at e
  cases hf : fill C f ds with
  | none => rw [hf] at e; cases e
  | some ds' =>
    rw [hf] at e
    have e : (if ds'.all (lowD 0 66) then match call f ds' C.tbls with
      | .ok (.v d) S' => if tblsOk C.tbls S' && lowD 0 66 d then some (R.v d) else none
      | .ok (.t es) S' => if tblsOk C.tbls S' && es.all (lowD 0 66) then some (R.t es) else none
      | _ => none
    else none) = some r := e
    rw [opt_some]
    by_cases hl : ds'.all (lowD 0 66) = true
    · rw [if_pos hl] at e
      rw [hl, ht]
      show aside C S (call f ds' C.tbls) = _
      cases hc : call f ds' C.tbls with
      | bad => rw [hc] at e; cases e
      | err x S' => rw [hc] at e; cases e
      | ok a S' =>
        rw [hc] at e
        cases a with
        | v d =>
          dsimp only at e
          by_cases h2 : (tblsOk C.tbls S' && lowD 0 66 d) = true
          · rw [if_pos h2] at e
            cases e
            rw [Bool.and_eq_true] at h2
            unfold aside
            dsimp only
            rw [if_pos h2.1]
            exact if_pos h2.2
          · rw [if_neg h2] at e; cases e
        | t es =>
          dsimp only at e
          by_cases h2 : (tblsOk C.tbls S' && es.all (lowD 0 66)) = true
          · rw [if_pos h2] at e
            cases e
            rw [Bool.and_eq_true] at h2
            unfold aside
            dsimp only
            rw [if_pos h2.1]
            exact if_pos h2.2
          · rw [if_neg h2] at e; cases e
    · rw [if_neg hl] at e; cases e
theorem pvOver_ok {pstep : D → Option (Option D)} {step : D → Store → Res (Option D)} (h : ∀ d o, pstep d = some o → step d S = .ok o S) : ∀ (ds xs acc : List D), pvOver pstep ds = some xs → overL step ds acc S = .ok (acc ++ xs) S
  | [], xs, acc, e => by
    cases e
    rw [overL, List.append_nil]
  | d :: r, xs, acc, e => by
    rw [pvOver] at e
    obtain ⟨o, h1, e⟩ := Option.bind_eq_some_iff.mp e
    obtain ⟨ys, h2, e⟩ := Option.map_eq_some_iff.mp e
    rw [overL, h d o h1, Res.bind_ok]
    cases o with
    | none =>
      dsimp only at e ⊢
      subst e
      exact pvOver_ok h r ys acc h2
    | some x =>
      dsimp only at e ⊢
      subst e
      rw [pvOver_ok h r ys (acc ++ [x]) h2, List.append_assoc]
      rfl
theorem slots_le {ρ ρ' : Env} (l : Le ρ ρ') : ∀ {is : List Nat} {ds : List D}, slotsOf ρ is = some ds → slotsOf ρ' is = some ds := fun {is ds} e => mapM_mono (fun i d hd => by
  cases h : ρ[i]? with
  | none => rw [h] at hd; cases hd
  | some o =>
    rw [h] at hd
    cases o with
    | none => cases hd
    | some d' =>
      cases hd
      rw [l.at_ i _ h]
      rfl) e
theorem wordAt_ok {w : Wrd} {j : Nat} {ρ ρ1 : Env} {S : Store} {y : Str} (ht : tblsOk C.tbls S = true) (l : Le ρ1 ρ) (e : wordAt C call w j ρ1 = some y) : word C call w ρ S j = .ok (.v (.str y)) S := by
  unfold wordAt at e
  obtain ⟨L, hL, e⟩ := Option.bind_eq_some_iff.mp e
  obtain ⟨ds, hs, e⟩ := Option.bind_eq_some_iff.mp e
  exact word_of hL (slots_le l hs) ht e
mutual
theorem pvE_ok (ht : tblsOk C.tbls S = true) : ∀ (e : E) (ρ ρ' : Env) (r : R), pvE C call e ρ = some r → Le ρ ρ' → evE C call e ρ' S = .ok r S
  | .non, ρ, ρ', r, h, l => by rw [pvE] at h; cases h; rw [evE]
  | .bl b, ρ, ρ', r, h, l => by rw [pvE] at h; cases h; rw [evE]
  | .int i, ρ, ρ', r, h, l => by rw [pvE] at h; cases h; rw [evE]
  | .str x, ρ, ρ', r, h, l => by rw [pvE] at h; cases h; rw [evE]
  | .var i, ρ, ρ', r, h, l => by
    rw [pvE] at h
    split at h
    · rename_i d hd
      cases h
      rw [evE, l.at_ i d hd]
    · cases h
  | .glb j, ρ, ρ', r, h, l => by
    rw [pvE] at h
    obtain ⟨d, h1, h2⟩ := Option.map_eq_some_iff.mp h
    subst h2
    rw [evE, h1, opt_some]
  | .tup es, ρ, ρ', r, h, l => by
    rw [pvE] at h
    obtain ⟨d, h1, h2⟩ := Option.map_eq_some_iff.mp h
    subst h2
    rw [evE, pvEs_ok ht es ρ ρ' d h1 l, Res.bind_ok]
  | .lst es, ρ, ρ', r, h, l => by
    rw [pvE] at h
    obtain ⟨d, h1, h2⟩ := Option.map_eq_some_iff.mp h
    subst h2
    rw [evE, pvEs_ok ht es ρ ρ' d h1 l, Res.bind_ok]
  | .flst es, ρ, ρ', r, h, l => by
    rw [pvE] at h
    obtain ⟨d, h1, h2⟩ := Option.map_eq_some_iff.mp h
    subst h2
    rw [evE, pvEs_ok ht es ρ ρ' d h1 l, Res.bind_ok]
  | .fdct, ρ, ρ', r, h, l => by rw [pvE] at h; cases h; rw [evE]
  | .flsc a, ρ, ρ', r, h, l => by
    rw [pvE] at h
    obtain ⟨x, h1, h⟩ := Option.bind_eq_some_iff.mp h
    obtain ⟨p, h2, h⟩ := Option.map_eq_some_iff.mp h
    subst h
    rw [evE, pvE_ok ht a ρ ρ' x h1 l, Res.bind_ok, seq0 h2, opt_some]
  | .bin o a b, ρ, ρ', r, h, l => by
    rw [pvE] at h
    obtain ⟨x, h1, h⟩ := Option.bind_eq_some_iff.mp h
    obtain ⟨y, h2, h⟩ := Option.bind_eq_some_iff.mp h
    rw [evE, pvE_ok ht a ρ ρ' x h1 l, Res.bind_ok, pvE_ok ht b ρ ρ' y h2 l, Res.bind_ok, bin0 h]
  | .fbin o a b, ρ, ρ', r, h, l => by
    rw [pvE] at h
    obtain ⟨x, h1, h⟩ := Option.bind_eq_some_iff.mp h
    obtain ⟨y, h2, h⟩ := Option.bind_eq_some_iff.mp h
    obtain ⟨z, h3, h⟩ := Option.map_eq_some_iff.mp h
    subst h
    rw [evE, pvE_ok ht a ρ ρ' x h1 l, Res.bind_ok, pvE_ok ht b ρ ρ' y h2 l, Res.bind_ok, bin0 h3, Res.bind_ok, frzd_eq]
  | .neg a, ρ, ρ', r, h, l => by
    rw [pvE] at h
    obtain ⟨x, h1, h⟩ := Option.bind_eq_some_iff.mp h
    rw [evE, pvE_ok ht a ρ ρ' x h1 l, Res.bind_ok]
    split at h
    · cases h; rfl
    · cases h
  | .not a, ρ, ρ', r, h, l => by
    rw [pvE] at h
    obtain ⟨x, h1, h⟩ := Option.bind_eq_some_iff.mp h
    obtain ⟨b, h2, h⟩ := Option.map_eq_some_iff.mp h
    subst h
    rw [evE, pvE_ok ht a ρ ρ' x h1 l, Res.bind_ok, truth0 h2, opt_some]
  | .cmp o a b, ρ, ρ', r, h, l => by
    rw [pvE] at h
    obtain ⟨x, h1, h⟩ := Option.bind_eq_some_iff.mp h
    obtain ⟨y, h2, h⟩ := Option.bind_eq_some_iff.mp h
    obtain ⟨c, h3, h⟩ := Option.map_eq_some_iff.mp h
    subst h
    rw [evE, pvE_ok ht a ρ ρ' x h1 l, Res.bind_ok, pvE_ok ht b ρ ρ' y h2 l, Res.bind_ok, cmp0 h3, opt_some]
  | .chn o o' a b c, ρ, ρ', r, h, l => by
    rw [pvE] at h
    obtain ⟨x, h1, h⟩ := Option.bind_eq_some_iff.mp h
    obtain ⟨y, h2, h⟩ := Option.bind_eq_some_iff.mp h
    obtain ⟨k, h3, h⟩ := Option.bind_eq_some_iff.mp h
    rw [evE, pvE_ok ht a ρ ρ' x h1 l, Res.bind_ok, pvE_ok ht b ρ ρ' y h2 l, Res.bind_ok, cmp0 h3, opt_some]
    cases k with
    | false =>
      rw [if_neg Bool.false_ne_true] at h ⊢
      cases h
      rfl
    | true =>
      rw [if_pos rfl] at h ⊢
      obtain ⟨z, h4, h⟩ := Option.bind_eq_some_iff.mp h
      obtain ⟨k2, h5, h⟩ := Option.map_eq_some_iff.mp h
      subst h
      rw [pvE_ok ht c ρ ρ' z h4 l, Res.bind_ok, cmp0 h5, opt_some]
  | .bop o es, ρ, ρ', r, h, l => by
    rw [pvE] at h
    rw [evE]
    exact pvBop_ok ht o es ρ ρ' r h l
  | .ife c a b, ρ, ρ', r, h, l => by
    rw [pvE] at h
    obtain ⟨x, h1, h⟩ := Option.bind_eq_some_iff.mp h
    obtain ⟨k, h2, h⟩ := Option.bind_eq_some_iff.mp h
    rw [evE, pvE_ok ht c ρ ρ' x h1 l, Res.bind_ok, truth0 h2, opt_some]
    cases k with
    | false =>
      rw [if_neg Bool.false_ne_true] at h ⊢
      exact pvE_ok ht b ρ ρ' r h l
    | true =>
      rw [if_pos rfl] at h ⊢
      exact pvE_ok ht a ρ ρ' r h l
  | .idx a i, ρ, ρ', r, h, l => by
    rw [pvE] at h
    obtain ⟨x, h1, h⟩ := Option.bind_eq_some_iff.mp h
    obtain ⟨y, h2, h⟩ := Option.bind_eq_some_iff.mp h
    obtain ⟨d, h3, h⟩ := Option.map_eq_some_iff.mp h
    subst h
    rw [evE, pvE_ok ht a ρ ρ' x h1 l, Res.bind_ok, pvE_ok ht i ρ ρ' y h2 l, Res.bind_ok, item0 h3, opt_some]
  | .slc a lo hi, ρ, ρ', r, h, l => by
    rw [pvE] at h
    obtain ⟨x, h1, h⟩ := Option.bind_eq_some_iff.mp h
    obtain ⟨y, h2, h⟩ := Option.bind_eq_some_iff.mp h
    obtain ⟨z, h3, h⟩ := Option.bind_eq_some_iff.mp h
    rw [evE, pvE_ok ht a ρ ρ' x h1 l, Res.bind_ok, pvB_ok ht lo ρ ρ' y h2 l, Res.bind_ok, pvB_ok ht hi ρ ρ' z h3 l, Res.bind_ok, slice0 h]
  | .fslc a lo hi, ρ, ρ', r, h, l => by
    rw [pvE] at h
    obtain ⟨x, h1, h⟩ := Option.bind_eq_some_iff.mp h
    obtain ⟨y, h2, h⟩ := Option.bind_eq_some_iff.mp h
    obtain ⟨z, h3, h⟩ := Option.bind_eq_some_iff.mp h
    obtain ⟨w, h4, h⟩ := Option.map_eq_some_iff.mp h
    subst h
    rw [evE, pvE_ok ht a ρ ρ' x h1 l, Res.bind_ok, pvB_ok ht lo ρ ρ' y h2 l, Res.bind_ok, pvB_ok ht hi ρ ρ' z h3 l, Res.bind_ok, slice0 h4, Res.bind_ok, frzd_eq]
  | .rev a, ρ, ρ', r, h, l => by
    rw [pvE] at h
    obtain ⟨x, h1, h⟩ := Option.bind_eq_some_iff.mp h
    rw [evE, pvE_ok ht a ρ ρ' x h1 l, Res.bind_ok, rev0 h]
  | .bi1 b a, ρ, ρ', r, h, l => by
    rw [pvE] at h
    obtain ⟨x, h1, h⟩ := Option.bind_eq_some_iff.mp h
    rw [evE, pvE_ok ht a ρ ρ' x h1 l, Res.bind_ok, bi10 h]
  | .bi2 b a c, ρ, ρ', r, h, l => by
    rw [pvE] at h
    obtain ⟨x, h1, h⟩ := Option.bind_eq_some_iff.mp h
    obtain ⟨y, h2, h⟩ := Option.bind_eq_some_iff.mp h
    rw [evE, pvE_ok ht a ρ ρ' x h1 l, Res.bind_ok, pvE_ok ht c ρ ρ' y h2 l, Res.bind_ok, bi20 h]
  | .isi a t, ρ, ρ', r, h, l => by
    rw [pvE] at h
    obtain ⟨x, h1, h⟩ := Option.bind_eq_some_iff.mp h
    obtain ⟨b, h2, h⟩ := Option.map_eq_some_iff.mp h
    subst h
    rw [evE, pvE_ok ht a ρ ρ' x h1 l, Res.bind_ok, ty0 h2, opt_some]
  | .callF f es, ρ, ρ', r, h, l => by
    rw [pvE] at h
    obtain ⟨ds, h1, h⟩ := Option.bind_eq_some_iff.mp h
    rw [evE, pvEs_ok ht es ρ ρ' ds h1 l, Res.bind_ok, pvF_ok ht h]
  | .fcall f es, ρ, ρ', r, h, l => by
    rw [pvE] at h
    obtain ⟨ds, h1, h⟩ := Option.bind_eq_some_iff.mp h
    obtain ⟨x, h2, h⟩ := Option.map_eq_some_iff.mp h
    subst h
    have z := pvF_ok ht h2
    rw [evE, pvEs_ok ht es ρ ρ' ds h1 l, Res.bind_ok]
    cases hf : fill C f ds with
    | none => rw [hf] at z; cases z
    | some ds' =>
      rw [hf, opt_some] at z
      rw [opt_some]
      split at z
      · rename_i hc
        rw [if_pos hc, z, Res.bind_ok, frzd_eq]
      · cases z
  | .lc elt tg it c k, ρ, ρ', r, h, l => by
    rw [pvE] at h
    obtain ⟨ds, h1, h⟩ := Option.bind_eq_some_iff.mp h
    obtain ⟨xs, h2, h⟩ := Option.map_eq_some_iff.mp h
    subst h
    rw [evE, pvI_ok ht it ρ ρ' ds h1 l, Res.bind_ok]
    show (calm (overL _ ds [] S)).bind _ = _
    rw [pvOver_ok (fun d o ho => ?_) ds xs [] h2, calm_ok, Res.bind_ok, List.nil_append]
    try dsimp only
    obtain ⟨ρ1, g1, ho⟩ := Option.bind_eq_some_iff.mp ho
    obtain ⟨b, g2, ho⟩ := Option.bind_eq_some_iff.mp ho
    obtain ⟨ρ1', k1, k2⟩ := pvT_ok ht tg d (Q.wipe ρ tg.slots) (Q.wipe ρ' tg.slots) ρ1 g1 (l.wipe _)
    rw [k1, Res.bind_ok, pvC_ok ht c ρ1 ρ1' b g2 k2, Res.bind_ok]
    cases b with
    | false =>
      rw [if_neg Bool.false_ne_true] at ho ⊢
      cases ho
      rfl
    | true =>
      rw [if_pos rfl] at ho ⊢
      obtain ⟨y, g3, ho⟩ := Option.bind_eq_some_iff.mp ho
      obtain ⟨d1, g4, ho⟩ := Option.map_eq_some_iff.mp ho
      subst ho
      cases y with
      | t ys => cases g4
      | v d2 =>
        cases g4
        rw [pvE_ok ht elt ρ1 ρ1' _ g3 k2, Res.bind_ok, settle_v]
  | .flc elt tg it c k, ρ, ρ', r, h, l => by
    rw [pvE] at h
    obtain ⟨ds, h1, h⟩ := Option.bind_eq_some_iff.mp h
    obtain ⟨xs, h2, h⟩ := Option.map_eq_some_iff.mp h
    subst h
    rw [evE, pvI_ok ht it ρ ρ' ds h1 l, Res.bind_ok]
    show (calm (overL _ ds [] S)).bind _ = _
    rw [pvOver_ok (fun d o ho => ?_) ds xs [] h2, calm_ok, Res.bind_ok, List.nil_append]
    try dsimp only
    obtain ⟨ρ1, g1, ho⟩ := Option.bind_eq_some_iff.mp ho
    obtain ⟨b, g2, ho⟩ := Option.bind_eq_some_iff.mp ho
    obtain ⟨ρ1', k1, k2⟩ := pvT_ok ht tg d (Q.wipe ρ tg.slots) (Q.wipe ρ' tg.slots) ρ1 g1 (l.wipe _)
    rw [k1, Res.bind_ok, pvC_ok ht c ρ1 ρ1' b g2 k2, Res.bind_ok]
    cases b with
    | false =>
      rw [if_neg Bool.false_ne_true] at ho ⊢
      cases ho
      rfl
    | true =>
      rw [if_pos rfl] at ho ⊢
      obtain ⟨y, g3, ho⟩ := Option.bind_eq_some_iff.mp ho
      obtain ⟨d1, g4, ho⟩ := Option.map_eq_some_iff.mp ho
      subst ho
      cases y with
      | t ys => cases g4
      | v d2 =>
        cases g4
        rw [pvE_ok ht elt ρ1 ρ1' _ g3 k2, Res.bind_ok, settle_v]
  | .lwd w j is, ρ, ρ', r, h, l => by
    rw [pvE] at h
    obtain ⟨W, h1, h⟩ := Option.bind_eq_some_iff.mp h
    obtain ⟨y, h2, h⟩ := Option.map_eq_some_iff.mp h
    subst h
    rw [evE, h1, opt_some]
    exact wordAt_ok ht l h2
  | .isiT a ts, ρ, ρ', r, h, l => by rw [pvE] at h; cases h
  | .call f es, ρ, ρ', r, h, l => by rw [pvE] at h; cases h
  | .met m o a, ρ, ρ', r, h, l => by rw [pvE] at h; cases h
  | .dct0, ρ, ρ', r, h, l => by rw [pvE] at h; cases h
  | .words a b c d, ρ, ρ', r, h, l => by rw [pvE] at h; cases h
  | .calv i es, ρ, ρ', r, h, l => by rw [pvE] at h; cases h
theorem pvEs_ok (ht : tblsOk C.tbls S = true) : ∀ (es : Es) (ρ ρ' : Env) (ds : List D), pvEs C call es ρ = some ds → Le ρ ρ' → evEs C call es ρ' S = .ok ds S
  | .nil, ρ, ρ', ds, h, l => by rw [pvEs] at h; cases h; rw [evEs]
  | .cons e r, ρ, ρ', ds, h, l => by
    rw [pvEs] at h
    obtain ⟨x, h1, h⟩ := Option.bind_eq_some_iff.mp h
    obtain ⟨d, h2, h⟩ := Option.bind_eq_some_iff.mp h
    obtain ⟨xs, h3, h⟩ := Option.map_eq_some_iff.mp h
    subst h
    cases x with
    | t ys => cases h2
    | v d2 =>
      cases h2
      rw [evEs, pvE_ok ht e ρ ρ' _ h1 l, Res.bind_ok, settle_v, pvEs_ok ht r ρ ρ' xs h3 l, Res.bind_ok]
theorem pvBop_ok (ht : tblsOk C.tbls S = true) : ∀ (o : BoolOp) (es : Es) (ρ ρ' : Env) (r : R), pvBop C call o es ρ = some r → Le ρ ρ' → evBop C call o es ρ' S = .ok r S
  | o, .nil, ρ, ρ', r, h, l => by rw [pvBop] at h; cases h
  | o, .cons e .nil, ρ, ρ', r, h, l => by
    rw [pvBop] at h
    rw [evBop]
    exact pvE_ok ht e ρ ρ' r h l
  | o, .cons e (.cons e' r'), ρ, ρ', r, h, l => by
    rw [pvBop] at h
    obtain ⟨x, h1, h⟩ := Option.bind_eq_some_iff.mp h
    obtain ⟨k, h2, h⟩ := Option.bind_eq_some_iff.mp h
    rw [evBop]
    try dsimp only
    rw [pvE_ok ht e ρ ρ' x h1 l, Res.bind_ok, truth0 h2, opt_some]
    cases o with
    | And =>
      dsimp only at h ⊢
      cases k with
      | false => rw [if_neg Bool.false_ne_true] at h ⊢; cases h; rfl
      | true => rw [if_pos rfl] at h ⊢; exact pvBop_ok ht .And (.cons e' r') ρ ρ' r h l
    | Or =>
      dsimp only at h ⊢
      cases k with
      | false => rw [if_neg Bool.false_ne_true] at h ⊢; exact pvBop_ok ht .Or (.cons e' r') ρ ρ' r h l
      | true => rw [if_pos rfl] at h ⊢; cases h; rfl
theorem pvB_ok (ht : tblsOk C.tbls S = true) : ∀ (o : Eo) (ρ ρ' : Env) (x : Option Int), pvB C call o ρ = some x → Le ρ ρ' → evB C call o ρ' S = .ok x S
  | .no, ρ, ρ', x, h, l => by rw [pvB] at h; cases h; rw [evB]
  | .so e, ρ, ρ', x, h, l => by
    rw [pvB] at h
    obtain ⟨y, h1, h⟩ := Option.bind_eq_some_iff.mp h
    rw [evB, pvE_ok ht e ρ ρ' y h1 l, Res.bind_ok]
    split at h
    · cases h; rfl
    · cases h
theorem pvC_ok (ht : tblsOk C.tbls S = true) : ∀ (o : Eo) (ρ ρ' : Env) (x : Bool), pvC C call o ρ = some x → Le ρ ρ' → evC C call o ρ' S = .ok x S
  | .no, ρ, ρ', x, h, l => by rw [pvC] at h; cases h; rw [evC]
  | .so e, ρ, ρ', x, h, l => by
    rw [pvC] at h
    obtain ⟨y, h1, h⟩ := Option.bind_eq_some_iff.mp h
    rw [evC, pvE_ok ht e ρ ρ' y h1 l, Res.bind_ok, truth0 h, opt_some]
theorem pvT_ok (ht : tblsOk C.tbls S = true) : ∀ (t : T) (d : D) (ρ ρ' ρ1 : Env), pvT C call t d ρ = some ρ1 → Le ρ ρ' → ∃ ρ1', asT C call t d ρ' S = .ok ρ1' S ∧ Le ρ1 ρ1'
  | .nm i, d, ρ, ρ', ρ1, h, l => by
    rw [pvT] at h
    cases h
    exact ⟨_, by rw [asT], l.set i _⟩
  | .tp ts, d, ρ, ρ', ρ1, h, l => by
    rw [pvT] at h
    obtain ⟨ds, h1, h⟩ := Option.bind_eq_some_iff.mp h
    obtain ⟨ρ2, h2, h3⟩ := pvTs_ok ht ts ds ρ ρ' ρ1 h l
    exact ⟨ρ2, by rw [asT, h1, opt_some, h2], h3⟩
  | .sb o i, d, ρ, ρ', ρ1, h, l => by rw [pvT] at h; cases h
theorem pvTs_ok (ht : tblsOk C.tbls S = true) : ∀ (ts : Ts) (ds : List D) (ρ ρ' ρ1 : Env), pvTs C call ts ds ρ = some ρ1 → Le ρ ρ' → ∃ ρ1', asTs C call ts ds ρ' S = .ok ρ1' S ∧ Le ρ1 ρ1'
  | .nil, ds, ρ, ρ', ρ1, h, l => by
    rw [pvTs] at h
    split at h
    · rename_i he
      cases h
      exact ⟨ρ', by rw [asTs, if_pos he], l⟩
    · cases h
  | .cons t r, ds, ρ, ρ', ρ1, h, l => by
    rw [pvTs] at h
    obtain ⟨p, h1, h⟩ := Option.bind_eq_some_iff.mp h
    obtain ⟨ρ2, h2, h⟩ := Option.bind_eq_some_iff.mp h
    obtain ⟨ρ3, k1, k2⟩ := pvT_ok ht t p.1 ρ ρ' ρ2 h2 l
    obtain ⟨ρ4, k3, k4⟩ := pvTs_ok ht r p.2 ρ2 ρ3 ρ1 h k2
    exact ⟨ρ4, by rw [asTs, h1, opt_some, k1, Res.bind_ok, k3], k4⟩
theorem pvI_ok (ht : tblsOk C.tbls S = true) : ∀ (it : It) (ρ ρ' : Env) (ds : List D), pvI C call it ρ = some ds → Le ρ ρ' → evI C call it ρ' S = .ok (.its ds) S
  | .seq e, ρ, ρ', ds, h, l => by
    rw [pvI] at h
    obtain ⟨x, h1, h⟩ := Option.bind_eq_some_iff.mp h
    obtain ⟨I, h2, h⟩ := Option.bind_eq_some_iff.mp h
    cases I with
    | live n => cases h
    | its es =>
      cases h
      rw [evI, pvE_ok ht e ρ ρ' x h1 l, Res.bind_ok, iter0 h2, opt_some]
  | .rng1 a, ρ, ρ', ds, h, l => by
    rw [pvI] at h
    obtain ⟨x, h1, h⟩ := Option.bind_eq_some_iff.mp h
    rw [evI, pvE_ok ht a ρ ρ' x h1 l, Res.bind_ok]
    split at h
    · try dsimp only
      split at h
      · rename_i hr
        cases h
        rw [if_pos hr]
      · cases h
    · cases h
  | .rng2 a b, ρ, ρ', ds, h, l => by
    rw [pvI] at h
    obtain ⟨x, h1, h⟩ := Option.bind_eq_some_iff.mp h
    obtain ⟨y, h2, h⟩ := Option.bind_eq_some_iff.mp h
    rw [evI, pvE_ok ht a ρ ρ' x h1 l, Res.bind_ok, pvE_ok ht b ρ ρ' y h2 l, Res.bind_ok]
    split at h
    · try dsimp only
      split at h
      · rename_i hr
        cases h
        rw [if_pos hr]
      · cases h
    · cases h
  | .zip a b, ρ, ρ', ds, h, l => by
    rw [pvI] at h
    obtain ⟨x, h1, h⟩ := Option.bind_eq_some_iff.mp h
    obtain ⟨y, h2, h⟩ := Option.bind_eq_some_iff.mp h
    rw [evI, pvE_ok ht a ρ ρ' x h1 l, Res.bind_ok, pvE_ok ht b ρ ρ' y h2 l, Res.bind_ok, zip0 h, opt_some]
  | .enum a, ρ, ρ', ds, h, l => by
    rw [pvI] at h
    obtain ⟨x, h1, h⟩ := Option.bind_eq_some_iff.mp h
    rw [evI, pvE_ok ht a ρ ρ' x h1 l, Res.bind_ok, enum0 h, opt_some]
end
end
end Q
end
section
-- K3
set_option Elab.async false
set_option linter.all false
set_option maxRecDepth 100000
set_option maxHeartbeats 1000000
namespace Q
open PySem (Str Operator CmpOp BoolOp PyData Paired)
/-! ### what is drawn, and what hangs on it -/
/-- the picking def, the rolling one, the slot of the dice -/
structure DP where
  pick : Nat
  roll : Nat
  dv : Nat
inductive Stp where
  | st (s : S)
  | fn (i f : Nat)
  | wp (l : List Nat)
  | dom (k : Nat) (l : List D)
abbrev Hist := List Stp
def tgS : S → List Nat
  | .asg t _ => t.slots
  | .par2 i j _ _ => [i, j]
  | .par3 i j k _ _ _ => [i, j, k]
  | .clos i _ => [i]
  | _ => []
def Stp.tgts : Stp → List Nat
  | .st s => tgS s
  | .fn i _ => [i]
  | .wp l => l
  | .dom k _ => [k]
/-! slots that are read -/
mutual
def rdE : E → List Nat
  | .var i => [i]
  | .tup es => rdEs es
  | .lst es => rdEs es
  | .bin _ a b => rdE a ++ rdE b
  | .neg a => rdE a
  | .not a => rdE a
  | .cmp _ a b => rdE a ++ rdE b
  | .chn _ _ a b c => rdE a ++ (rdE b ++ rdE c)
  | .bop _ es => rdEs es
  | .ife c a b => rdE c ++ (rdE a ++ rdE b)
  | .idx a i => rdE a ++ rdE i
  | .slc a lo hi => rdE a ++ (rdO lo ++ rdO hi)
  | .rev a => rdE a
  | .call _ es => rdEs es
  | .bi1 _ a => rdE a
  | .bi2 _ a c => rdE a ++ rdE c
  | .isi a _ => rdE a
  | .isiT a _ => rdE a
  | .met _ o a => rdE o ++ rdE a
  | .lc elt _ it c _ => rdI it ++ (rdO c ++ rdE elt)
  | .flc elt _ it c _ => rdI it ++ (rdO c ++ rdE elt)
  | .lwd _ _ is => is
  | .flst es => rdEs es
  | .flsc a => rdE a
  | .callF _ es => rdEs es
  | .words _ i _ _ => [i]
  | .calv i es => i :: rdEs es
  | .fbin _ a b => rdE a ++ rdE b
  | .fslc a lo hi => rdE a ++ (rdO lo ++ rdO hi)
  | .fcall _ es => rdEs es
  | _ => []
def rdEs : Es → List Nat
  | .nil => []
  | .cons e r => rdE e ++ rdEs r
def rdO : Eo → List Nat
  | .no => []
  | .so e => rdE e
def rdI : It → List Nat
  | .seq e => rdE e
  | .rng1 a => rdE a
  | .rng2 a b => rdE a ++ rdE b
  | .zip a b => rdE a ++ rdE b
  | .enum a => rdE a
end
def rdS : S → List Nat
  | .asg _ e => rdE e
  | .par2 _ _ a b => rdE a ++ rdE b
  | .par3 _ _ _ a b c => rdE a ++ (rdE b ++ rdE c)
  | _ => []
def Stp.reads : Stp → List Nat
  | .st s => rdS s
  | _ => []
def needs : Hist → List Nat → List Bool
  | [], _ => []
  | s :: h, l => if s.tgts.any l.contains then true :: needs h (l.filter (fun i => !s.tgts.contains i) ++ s.reads) else false :: needs h l
def notRef : D → Bool
  | .ref _ => false
  | _ => true
section
variable (C : Q.Ctx) (call : Nat → List D → Store → Res R) (P : DP)
def isDraw : E → Bool
  | .call f (.cons (.var v) (.cons _ .nil)) => v == P.dv && (f == P.pick || f == P.roll)
  | _ => false
/-- what may be drawn -/
def drawn : E → Env → Option (List D)
  | .call f (.cons (.var v) (.cons a .nil)), ρ => if f == P.pick then (pvE C call a ρ).bind fun r => (oneV r).bind fun d => (seqOf [] (.v d)).bind fun p => if !p.2.isEmpty && Nat.blt p.2.length 1000 && p.2.all notRef then some p.2 else none
    else (pvE C call a ρ).bind fun r => match r with
      | .v (.int m) => if decide (0 < m) && decide (m < 1000) then some ((List.range m.toNat).map fun k : Nat => .int k) else none
      | _ => none
  | _, _ => none
def val1 (e : E) (ρ : Env) : Option (List D) := if isDraw P e then drawn C call P e ρ else (pvE C call e ρ).bind fun r => (oneV r).map fun d => [d]
def anyDraw : Es → Bool
  | .nil => false
  | .cons e r => isDraw P e || anyDraw r
def valsEs : Es → Env → Option (List (List D))
  | .nil, _ => some [[]]
  | .cons e r, ρ => (val1 C call P e ρ).bind fun xs => (valsEs r ρ).map fun ys => xs.flatMap fun x => ys.map fun y => x :: y
def valsOf (e : E) (ρ : Env) : Option (List D) := match e with
  | .tup es => if anyDraw P es then (valsEs C call P es ρ).map fun l => l.map .tup else val1 C call P (.tup es) ρ
  | e => val1 C call P e ρ
def nexts : Stp → Env → Option (List Env)
  | .st (.asg t e), ρ => (valsOf C call P e ρ).bind fun ds => ds.mapM fun d => pvT C call t d ρ
  | .st (.par2 i j a b), ρ => (valsOf C call P a ρ).bind fun xs => (valsOf C call P b ρ).map fun ys => xs.flatMap fun x => ys.map fun y => (ρ.set i (some x)).set j (some y)
  | .st (.par3 i j k a b c), ρ => (valsOf C call P a ρ).bind fun xs => (valsOf C call P b ρ).bind fun ys => (valsOf C call P c ρ).map fun zs => xs.flatMap fun x => ys.flatMap fun y => zs.map fun z => ((ρ.set i (some x)).set j (some y)).set k (some z)
  | .st (.clos i js), ρ => some [ρ.set i (some (.clos js))]
  | .fn i f, ρ => some [ρ.set i (some (.fnv f))]
  | .dom k l, ρ => some (l.map fun d => ρ.set k (some d))
  | _, _ => none
def stepAll (s : Stp) (b : Bool) (t : Env → Bool) (ρ : Env) : Bool := if b then (match nexts C call P s ρ with
  | some l => l.all t
  | none => false) else t (wipe ρ s.tgts)
def sliceAll (ρ0 : Env) : Hist → List Bool → (Env → Bool) → Bool
  | [], _, t => t ρ0
  | s :: h, b :: sl, t => sliceAll ρ0 h sl (stepAll C call P s b t)
  | s :: h, [], t => sliceAll ρ0 h [] (stepAll C call P s false t)
def stepFst {α : Type} (s : Stp) (b : Bool) (f : Env → Option α) (ρ : Env) : Option α := if b then (match nexts C call P s ρ with
  | some (x :: _) => f x
  | _ => none) else f (wipe ρ s.tgts)
def sliceFst {α : Type} (ρ0 : Env) : Hist → List Bool → (Env → Option α) → Option α
  | [], _, f => f ρ0
  | s :: h, b :: sl, f => sliceFst ρ0 h sl (stepFst C call P s b f)
  | s :: h, [], f => sliceFst ρ0 h [] (stepFst C call P s false f)
def sliceB (ρ0 : Env) (h : Hist) (l : List Nat) (t : Env → Bool) : Bool := sliceAll C call P ρ0 h (needs h l) t
/-- what led to the slots -/
def Tr (ρ0 : Env) : Hist → Env → Prop
  | [], ρ => Le ρ0 ρ
  | s :: h, ρ => ∃ ρp, Tr ρ0 h ρp ∧ (∀ ρ1 l, Le ρ1 ρp → nexts C call P s ρ1 = some l → ∃ x ∈ l, Le x ρ) ∧ Le (wipe ρp s.tgts) ρ
end
section
variable {C : Q.Ctx} {call : Nat → List D → Store → Res R} {P : DP} {ρ0 : Env}
theorem slice_ok : ∀ (h : Hist) (sl : List Bool) (t : Env → Bool) (ρ : Env), sliceAll C call P ρ0 h sl t = true → Tr C call P ρ0 h ρ → ∃ ρ1, Le ρ1 ρ ∧ t ρ1 = true := by
  intro h
  induction h with
  | nil => exact fun sl t ρ e r => ⟨ρ0, r, by cases sl <;> exact e⟩
  | cons s h ih =>
    intro sl t ρ e r
    obtain ⟨ρp, r1, r2, r3⟩ := r
    have key : ∀ b sl', sliceAll C call P ρ0 h sl' (stepAll C call P s b t) = true → ∃ ρ1, Le ρ1 ρ ∧ t ρ1 = true := fun b sl' e => by
      obtain ⟨ρ1, l1, e1⟩ := ih sl' _ ρp e r1
      unfold stepAll at e1
      cases b with
      | false =>
        rw [if_neg Bool.false_ne_true] at e1
        exact ⟨_, (l1.wipe _).trans r3, e1⟩
      | true =>
        rw [if_pos rfl] at e1
        split at e1
        · rename_i l hl
          obtain ⟨x, hx, lx⟩ := r2 ρ1 l l1 hl
          exact ⟨x, lx, List.all_eq_true.mp e1 x hx⟩
        · cases e1
    cases sl with
    | nil => exact key false [] e
    | cons b sl => exact key b sl e
theorem sliceB_ok {h : Hist} {l : List Nat} {t : Env → Bool} {ρ : Env} (e : sliceB C call P ρ0 h l t = true) (r : Tr C call P ρ0 h ρ) : ∃ ρ1, Le ρ1 ρ ∧ t ρ1 = true := slice_ok h _ t ρ e r
/-- all but some slots is as it was -/
structure Agr (l : List Nat) (ρ ρ' : Env) : Prop where
  len : ρ.length = ρ'.length
  at_ : ∀ i, i ∉ l → ρ'[i]? = ρ[i]?
theorem Agr.refl {l : List Nat} {ρ : Env} : Agr l ρ ρ := ⟨rfl, fun _ _ => rfl⟩
theorem Agr.trans {l m : List Nat} {a b c : Env} (h : Agr l a b) (k : Agr m b c) : Agr (l ++ m) a c := ⟨h.len.trans k.len, fun i hi => by
  rw [List.mem_append, not_or] at hi
  rw [k.at_ i hi.2, h.at_ i hi.1]⟩
theorem Agr.mono {l m : List Nat} {a b : Env} (h : Agr l a b) (k : ∀ i ∈ l, i ∈ m) : Agr m a b := ⟨h.len, fun i hi => h.at_ i fun z => hi (k i z)⟩
theorem Agr.set {ρ : Env} (i : Nat) (o : Option D) : Agr [i] ρ (ρ.set i o) := ⟨by rw [List.length_set], fun j hj => by
  rw [List.getElem?_set_ne (fun z => hj (by rw [z]; exact List.mem_singleton.mpr rfl))]⟩
theorem wipe_len (ρ : Env) : ∀ l : List Nat, (Q.wipe ρ l).length = ρ.length
  | [] => rfl
  | i :: r => by show ((Q.wipe ρ r).set i none).length = _; rw [List.length_set, wipe_len ρ r]
theorem wipe_at {ρ : Env} : ∀ {l : List Nat} {i : Nat} {d : D}, (Q.wipe ρ l)[i]? = some (some d) → i ∉ l ∧ ρ[i]? = some (some d)
  | [], i, d, e => ⟨by simp, e⟩
  | j :: r, i, d, e => by
    obtain ⟨h1, h2⟩ := wipe_some (show ((Q.wipe ρ r).set j none)[i]? = some (some d) from e)
    obtain ⟨h3, h4⟩ := wipe_at h2
    exact ⟨fun z => (List.mem_cons.mp z).elim (fun z => h1 z.symm) h3, h4⟩
theorem Agr.le {l : List Nat} {ρp ρ ρ' : Env} (a : Agr l ρ ρ') (h : Le (Q.wipe ρp l) ρ) : Le (Q.wipe ρp l) ρ' := ⟨h.len.trans a.len, fun i d e => by
  obtain ⟨h1, h2⟩ := wipe_at e
  rw [a.at_ i h1]
  exact h.at_ i d e⟩
theorem Agr.wiped {l : List Nat} {ρ ρ' : Env} (a : Agr l ρ ρ') : Le (Q.wipe ρ l) ρ' := a.le ((Le.refl ρ).wipe1 l)
/-- where one stands -/
structure StOk (C : Q.Ctx) (P : DP) (lv : Bool) (j c : Nat) (ρ : Env) (S : Store) : Prop where
  tb : tblsOk C.tbls S = true
  dr : lv = true → ρ[P.dv]? = some (some (.ref j)) ∧ Drw C j c S
theorem StOk.env {lv : Bool} {j c : Nat} {ρ ρ' : Env} {S : Store} {l : List Nat} (h : StOk C P lv j c ρ S) (a : Agr l ρ ρ') (n : lv = true → P.dv ∉ l) : StOk C P lv j c ρ' S := ⟨h.tb, fun z => by
  obtain ⟨h1, h2⟩ := h.dr z
  exact ⟨by rw [a.at_ _ (n z)]; exact h1, h2⟩⟩
/-- what is asked of the dice -/
structure DOk (C : Q.Ctx) (P : DP) : Prop where
  pick : C.fns[P.pick]? = some (F_law_pick P.roll)
  roll : SRoll C 1 P.roll
def nd1 (P : DP) (e : E) : Nat := if isDraw P e then 1 else 0
def ndEs (P : DP) : Es → Nat
  | .nil => 0
  | .cons e r => nd1 P e + ndEs P r
def nd (P : DP) (e : E) : Nat := match e with
  | .tup es => ndEs P es
  | e => nd1 P e
theorem Drw.mono {j c c' : Nat} {S : Store} (h : Drw C j c S) (e : c ≤ c') : Drw C j c' S := ⟨h.dice.mono e, h.ok, h.lt⟩
theorem pickZ {i a : Nat} (h : C.fns[i]? = some (F_law_pick a)) (ha : SRoll C 1 a) {n j c : Nat} {S : Store} {d : D} {b : Bool} {ds : List D} (hq : ∀ S, seqOf S (.v d) = some (b, ds)) (hf : ∀ ds, d ≠ .fl ds) (T : Drw C j c S) (hc : c + 1 ≤ 1000000) (h0 : ds ≠ []) (hl : ds.length < 1000) (hr : ∀ x ∈ ds, ∀ k, x ≠ .ref k) :
    ∃ x S', x ∈ ds ∧ evCall C (n + 2) i [.ref j, d] S = .ok (.v x) S' ∧ Drw C j (c + 1) S' := by
  have hj := T.dice.lt
  have len : ∀ S, evBi1 .len S (.v d) = .ok (.v (.int ds.length)) S := fun S => by
    unfold evBi1
    dsimp only
    split
    · rename_i e; cases e; have := hq []; cases this
    · rename_i es e; cases e; exact absurd rfl (hf _)
    · rw [hq S]
  have ix : ∀ S i, getItem S (.v d) (.v (.int i)) = atD ds i := fun S i => by
    unfold getItem
    dsimp only
    split
    · rename_i es e; cases e; exact absurd rfl (hf _)
    · rw [hq S]
  obtain ⟨r, S1, e1, r0, r1, x1, d1⟩ := ha.2 n S ds.length j c T.dice (by
    cases ds with
    | nil => exact absurd rfl h0
    | cons _ _ => rw [List.length_cons]; omega) (by omega) (by omega)
  obtain ⟨k, rfl⟩ : ∃ k : Nat, r = k := ⟨r.toNat, by omega⟩
  have hk : k < ds.length := by omega
  obtain ⟨S2, e3, x3, d3⟩ := ev_dice (m := n + 1) (n := j) (c := c + 1) (S' := S1) (d := ds[k]) (ds := [.ref j, d]) h rfl (hr _ (List.getElem_mem hk)) hj (by
    show evSs C (evCall C (n + 1)) (t_law_pick a) [some (.ref j), some d] S = _
    simp [t_law_pick, len, ha.1, e1, ix, atD_nat hk]) x1 d1
  exact ⟨ds[k], S2, List.getElem_mem hk, e3, T.ext x3 d3⟩
theorem notRef_of {l : List D} (h : l.all notRef = true) : ∀ x ∈ l, ∀ k, x ≠ .ref k := fun x hx k e => by
  have := List.all_eq_true.mp h x hx
  rw [e] at this
  cases this
/-- a value, drawn or not -/
theorem val1_ok {lv : Bool} {n j c : Nat} {ρ ρ1 : Env} {S : Store} {e : E} {ds1 : List D} (O : DOk C P) (st : StOk C P lv j c ρ S) (hL : isDraw P e = true → lv = true) (hc : c + nd1 P e ≤ 1000000) (l1 : Le ρ1 ρ) (e1 : val1 C (evCall C (n + 2)) P e ρ1 = some ds1) :
    ∃ d S', evE C (evCall C (n + 2)) e ρ S = .ok (.v d) S' ∧ StOk C P lv j (c + nd1 P e) ρ S' ∧ ∀ ρ2 ds, Le ρ2 ρ → val1 C (evCall C (n + 2)) P e ρ2 = some ds → d ∈ ds := by
  unfold val1 at e1
  unfold nd1 at hc ⊢
  by_cases hd : isDraw P e = true
  · rw [if_pos hd] at e1 hc ⊢
    have hL' := hL hd
    clear hL
    unfold isDraw at hd
    split at hd
    case h_2 => cases hd
    rename_i f v a
    rw [Bool.and_eq_true] at hd
    obtain ⟨hv, hf⟩ := hd
    have hv := eq_of_beq hv
    subst hv
    obtain ⟨g1, g2⟩ := st.dr hL'
    have all : ∀ ρ2 ds, Le ρ2 ρ → val1 C (evCall C (n + 2)) P (.call f (.cons (.var P.dv) (.cons a .nil))) ρ2 = some ds → drawn C (evCall C (n + 2)) P (.call f (.cons (.var P.dv) (.cons a .nil))) ρ2 = some ds := fun ρ2 ds _ z => by
      unfold val1 at z
      rw [if_pos (show isDraw P (.call f (.cons (.var P.dv) (.cons a .nil))) = true from by
        show (P.dv == P.dv && (f == P.pick || f == P.roll)) = true
        rw [beq_self_eq_true, hf]
        rfl)] at z
      exact z
    by_cases hp : (f == P.pick) = true
    · have pk : ∀ ρ2 ds, Le ρ2 ρ → drawn C (evCall C (n + 2)) P (.call f (.cons (.var P.dv) (.cons a .nil))) ρ2 = some ds → ∃ d b, evE C (evCall C (n + 2)) a ρ S = .ok (.v d) S ∧ seqOf [] (.v d) = some (b, ds) ∧ ds ≠ [] ∧ ds.length < 1000 ∧ ∀ x ∈ ds, ∀ k, x ≠ .ref k := fun ρ2 ds l2 z => by
        unfold drawn at z
        dsimp only at z
        rw [if_pos hp] at z
        obtain ⟨r, z1, z⟩ := Option.bind_eq_some_iff.mp z
        obtain ⟨d, z2, z⟩ := Option.bind_eq_some_iff.mp z
        obtain ⟨p, z3, z⟩ := Option.bind_eq_some_iff.mp z
        split at z
        case isFalse => cases z
        rename_i hh
        cases z
        rw [Bool.and_eq_true, Bool.and_eq_true] at hh
        cases r with
        | t _ => cases z2
        | v d' =>
          cases z2
          refine ⟨d, p.1, pvE_ok st.tb a ρ2 ρ _ z1 l2, z3, ?_, Nat.blt_eq.mp hh.1.2, notRef_of hh.2⟩
          intro w
          rw [w] at hh
          exact Bool.noConfusion hh.1.1
      obtain ⟨d, b, ea, es, h0, hl, hr⟩ := pk ρ1 ds1 l1 e1
      have hq : ∀ S, seqOf S (.v d) = some (b, ds1) := fun S => seq0 es
      obtain ⟨x, S', hx, ec, T⟩ := pickZ (n := n) O.pick O.roll hq (fun es' z => by rw [z] at es; cases es) g2 hc h0 hl hr
      have hp := eq_of_beq hp
      refine ⟨x, S', ?_, ⟨T.ok, fun _ => ⟨g1, T⟩⟩, fun ρ2 ds l2 z => ?_⟩
      · rw [e_call, evEs, e_var, g1]
        dsimp only
        rw [Res.bind_ok, settle_v, evEs, ea, Res.bind_ok, settle_v, evEs, Res.bind_ok, Res.bind_ok, Res.bind_ok, hp, fill_of O.pick rfl, opt_some, ec]
      · obtain ⟨d', b', ea', es', _⟩ := pk ρ2 ds l2 (all ρ2 ds l2 z)
        rw [ea] at ea'
        cases ea'
        rw [es] at es'
        cases es'
        exact hx
    · have hR : f = P.roll := by
        rw [Bool.or_eq_true] at hf
        exact hf.elim (fun z => absurd z hp) eq_of_beq
      have pk : ∀ ρ2 ds, Le ρ2 ρ → drawn C (evCall C (n + 2)) P (.call f (.cons (.var P.dv) (.cons a .nil))) ρ2 = some ds → ∃ m : Int, evE C (evCall C (n + 2)) a ρ S = .ok (.v (.int m)) S ∧ 0 < m ∧ m < 1000 ∧ ds = (List.range m.toNat).map fun k : Nat => .int k := fun ρ2 ds l2 z => by
        unfold drawn at z
        dsimp only at z
        rw [if_neg hp] at z
        obtain ⟨r, z1, z⟩ := Option.bind_eq_some_iff.mp z
        split at z
        case h_2 => cases z
        rename_i m
        split at z
        case isFalse => cases z
        rename_i hh
        rw [Bool.and_eq_true] at hh
        cases z
        exact ⟨m, pvE_ok st.tb a ρ2 ρ _ z1 l2, of_decide_eq_true hh.1, of_decide_eq_true hh.2, rfl⟩
      obtain ⟨m, ea, m0, m1, em⟩ := pk ρ1 ds1 l1 e1
      obtain ⟨r, S', ec, r0, r1, x1, d1⟩ := O.roll.2 (n + 1) S m j c g2.dice m0 m1 (by omega)
      have T := g2.ext x1 d1
      refine ⟨.int r, S', ?_, ⟨T.ok, fun _ => ⟨g1, T⟩⟩, fun ρ2 ds l2 z => ?_⟩
      · rw [e_call, evEs, e_var, g1]
        dsimp only
        rw [Res.bind_ok, settle_v, evEs, ea, Res.bind_ok, settle_v, evEs, Res.bind_ok, Res.bind_ok, Res.bind_ok, hR, O.roll.1, opt_some, ec]
      · obtain ⟨m', ea', _, _, em'⟩ := pk ρ2 ds l2 (all ρ2 ds l2 z)
        rw [ea] at ea'
        cases ea'
        rw [em']
        exact List.mem_map.mpr ⟨r.toNat, List.mem_range.mpr (by omega), by rw [Int.toNat_of_nonneg r0]⟩
  · rw [if_neg hd] at e1 hc ⊢
    have pk : ∀ ρ2 ds, Le ρ2 ρ → val1 C (evCall C (n + 2)) P e ρ2 = some ds → ∃ d, ds = [d] ∧ evE C (evCall C (n + 2)) e ρ S = .ok (.v d) S := fun ρ2 ds l2 z => by
      unfold val1 at z
      rw [if_neg hd] at z
      obtain ⟨r, z1, z⟩ := Option.bind_eq_some_iff.mp z
      obtain ⟨d, z2, z3⟩ := Option.map_eq_some_iff.mp z
      cases r with
      | t _ => cases z2
      | v d' =>
        cases z2
        exact ⟨d, z3.symm, pvE_ok st.tb e ρ2 ρ _ z1 l2⟩
    obtain ⟨d, ed, ee⟩ := pk ρ1 ds1 l1 (by unfold val1; rw [if_neg hd]; exact e1)
    refine ⟨d, S, ee, by rw [Nat.add_zero]; exact st, fun ρ2 ds l2 z => ?_⟩
    obtain ⟨d', ed', ee'⟩ := pk ρ2 ds l2 z
    rw [ee] at ee'
    cases ee'
    rw [ed']
    exact List.mem_singleton.mpr rfl
theorem nd1_draw {e : E} (h : isDraw P e = true) : nd1 P e = 1 := by
  unfold nd1
  rw [if_pos h]
theorem ndEs_zero : ∀ {es : Es}, anyDraw P es = false → ndEs P es = 0
  | .nil, _ => rfl
  | .cons e r, h => by
    have h : (isDraw P e || anyDraw P r) = false := h
    rw [Bool.or_eq_false_iff] at h
    show nd1 P e + ndEs P r = 0
    rw [ndEs_zero h.2]
    unfold nd1
    rw [h.1]
    rfl
theorem valsEs_ok {lv : Bool} {n j : Nat} {ρ ρ1 : Env} (O : DOk C P) (l1 : Le ρ1 ρ) : ∀ (es : Es) (c : Nat) (S : Store) (ds1 : List (List D)), StOk C P lv j c ρ S → (ndEs P es ≠ 0 → lv = true) → c + ndEs P es ≤ 1000000 → valsEs C (evCall C (n + 2)) P es ρ1 = some ds1 →
    ∃ ds S', evEs C (evCall C (n + 2)) es ρ S = .ok ds S' ∧ StOk C P lv j (c + ndEs P es) ρ S' ∧ ∀ ρ2 dss, Le ρ2 ρ → valsEs C (evCall C (n + 2)) P es ρ2 = some dss → ds ∈ dss
  | .nil, c, S, ds1, st, hL, hc, e1 => ⟨[], S, by rw [evEs], st, fun ρ2 dss _ z => by rw [valsEs] at z; cases z; exact List.mem_singleton.mpr rfl⟩
  | .cons e r, c, S, ds1, st, hL, hc, e1 => by
    have hc : c + (nd1 P e + ndEs P r) ≤ 1000000 := hc
    have hL : nd1 P e + ndEs P r ≠ 0 → lv = true := hL
    have al : ∀ ρ2 dss, valsEs C (evCall C (n + 2)) P (.cons e r) ρ2 = some dss → ∃ xs ys, val1 C (evCall C (n + 2)) P e ρ2 = some xs ∧ valsEs C (evCall C (n + 2)) P r ρ2 = some ys ∧ dss = xs.flatMap fun x => ys.map fun y => x :: y := fun ρ2 dss z => by
      rw [valsEs] at z
      obtain ⟨xs, z1, z⟩ := Option.bind_eq_some_iff.mp z
      obtain ⟨ys, z2, z3⟩ := Option.map_eq_some_iff.mp z
      exact ⟨xs, ys, z1, z2, z3.symm⟩
    obtain ⟨xs, ys, v1, v2, _⟩ := al ρ1 ds1 e1
    obtain ⟨x, S1, ex, st1, mx⟩ := val1_ok O st (fun z => hL (by rw [nd1_draw z]; omega)) (by omega) l1 v1
    obtain ⟨ds, S2, er, st2, mr⟩ := valsEs_ok O l1 r (c + nd1 P e) S1 ys st1 (fun z => hL (by omega)) (by omega) v2
    refine ⟨x :: ds, S2, by rw [evEs, ex, Res.bind_ok, settle_v, er, Res.bind_ok], by rw [show c + ndEs P (.cons e r) = c + nd1 P e + ndEs P r from (Nat.add_assoc _ _ _).symm]; exact st2, fun ρ2 dss l2 z => ?_⟩
    obtain ⟨xs2, ys2, w1, w2, w3⟩ := al ρ2 dss z
    subst w3
    exact List.mem_flatMap.mpr ⟨x, mx ρ2 xs2 l2 w1, List.mem_map.mpr ⟨ds, mr ρ2 ys2 l2 w2, rfl⟩⟩
theorem vals_ok {lv : Bool} {n j c : Nat} {ρ ρ1 : Env} {S : Store} {e : E} {ds1 : List D} (O : DOk C P) (st : StOk C P lv j c ρ S) (hL : nd P e ≠ 0 → lv = true) (hc : c + nd P e ≤ 1000000) (l1 : Le ρ1 ρ) (e1 : valsOf C (evCall C (n + 2)) P e ρ1 = some ds1) :
    ∃ d S', evE C (evCall C (n + 2)) e ρ S = .ok (.v d) S' ∧ StOk C P lv j (c + nd P e) ρ S' ∧ ∀ ρ2 ds, Le ρ2 ρ → valsOf C (evCall C (n + 2)) P e ρ2 = some ds → d ∈ ds := by
  have plain : (∀ ρ, valsOf C (evCall C (n + 2)) P e ρ = val1 C (evCall C (n + 2)) P e ρ) → nd P e = nd1 P e → ∃ d S', evE C (evCall C (n + 2)) e ρ S = .ok (.v d) S' ∧ StOk C P lv j (c + nd P e) ρ S' ∧ ∀ ρ2 ds, Le ρ2 ρ → valsOf C (evCall C (n + 2)) P e ρ2 = some ds → d ∈ ds := fun h1 h2 => by
    rw [h1] at e1
    rw [h2] at hc hL ⊢
    obtain ⟨d, S', k1, k2, k3⟩ := val1_ok O st (fun z => hL (by rw [nd1_draw z]; omega)) hc l1 e1
    exact ⟨d, S', k1, k2, fun ρ2 ds l2 z => k3 ρ2 ds l2 (by rw [← h1]; exact z)⟩
  cases e with
  | tup es =>
    by_cases h : anyDraw P es = true
    · have h1 : ∀ ρ, valsOf C (evCall C (n + 2)) P (.tup es) ρ = (valsEs C (evCall C (n + 2)) P es ρ).map fun l => l.map .tup := fun ρ => by
        show (if anyDraw P es = true then _ else _) = _
        rw [if_pos h]
      rw [h1] at e1
      obtain ⟨dss, z1, z2⟩ := Option.map_eq_some_iff.mp e1
      obtain ⟨ds, S', k1, k2, k3⟩ := valsEs_ok O l1 es c S dss st hL hc z1
      refine ⟨.tup ds, S', by rw [evE, k1, Res.bind_ok], k2, fun ρ2 ds2 l2 z => ?_⟩
      rw [h1] at z
      obtain ⟨dss2, z3, z4⟩ := Option.map_eq_some_iff.mp z
      subst z4
      exact List.mem_map.mpr ⟨ds, k3 ρ2 dss2 l2 z3, rfl⟩
    · have h : anyDraw P es = false := by simpa using h
      refine plain (fun ρ => ?_) ?_
      · show (if anyDraw P es = true then _ else _) = _
        rw [if_neg (by rw [h]; exact Bool.false_ne_true)]
      · show ndEs P es = nd1 P (.tup es)
        rw [ndEs_zero h]
        rfl
  | _ => exact plain (fun _ => rfl) rfl
theorem Tr.up {call : Nat → List D → Store → Res R} : ∀ {h : Hist} {ρ ρ' : Env}, Tr C call P ρ0 h ρ → Le ρ ρ' → Tr C call P ρ0 h ρ'
  | [], ρ, ρ', t, l => Le.trans t l
  | s :: h, ρ, ρ', ⟨ρp, t1, t2, t3⟩, l => ⟨ρp, t1, fun ρ1 xs le z => by
    obtain ⟨x, hx, lx⟩ := t2 ρ1 xs le z
    exact ⟨x, hx, lx.trans l⟩, t3.trans l⟩
def doms : List (Nat × List D) → Hist → Hist
  | [], h => h
  | p :: r, h => doms r (.dom p.1 p.2 :: h)
theorem tr_doms {call : Nat → List D → Store → Res R} {ρ' : Env} : ∀ (L : List (Nat × List D)) (h : Hist) (ρ : Env), Tr C call P ρ0 h ρ → ρ.length = ρ'.length → (∀ i d, (∀ p ∈ L, p.1 ≠ i) → ρ[i]? = some (some d) → ρ'[i]? = some (some d)) → (∀ p ∈ L, ∃ d, d ∈ p.2 ∧ ρ'[p.1]? = some (some d)) → Tr C call P ρ0 (doms L h) ρ'
  | [], h, ρ, t, hl, ha, _ => t.up ⟨hl, fun i d e => ha i d (by simp) e⟩
  | p :: r, h, ρ, t, hl, ha, hd => by
    obtain ⟨d, hd1, hd2⟩ := hd p List.mem_cons_self
    have lt : p.1 < ρ.length := by rw [hl]; exact (List.getElem?_eq_some_iff.mp hd2).1
    refine tr_doms r (.dom p.1 p.2 :: h) (ρ.set p.1 (some d)) ⟨ρ, t, fun ρ1 xs le z => ?_, (Agr.set p.1 (some d)).wiped⟩ (by rw [List.length_set, hl]) (fun i e hi h2 => ?_) fun q hq => hd q (List.mem_cons_of_mem _ hq)
    · have z : some (p.2.map fun d => ρ1.set p.1 (some d)) = some xs := z
      cases z
      exact ⟨_, List.mem_map.mpr ⟨d, hd1, rfl⟩, le.set p.1 _⟩
    · by_cases w : p.1 = i
      · subst w
        rw [List.getElem?_set_self lt] at h2
        cases h2
        exact hd2
      · rw [List.getElem?_set_ne w] at h2
        exact ha i e (fun q hq => (List.mem_cons.mp hq).elim (fun z => by rw [z]; exact w) (hi q)) h2
end
end Q
end
section
-- K4
set_option Elab.async false
set_option linter.all false
set_option maxRecDepth 100000
set_option maxHeartbeats 1000000
namespace Q
open PySem (Str Operator CmpOp BoolOp PyData Paired)
section
variable {C : Q.Ctx} {call : Nat → List D → Store → Res R} {P : DP} {ρ0 : Env}
/-! ### one statement -/
mutual
theorem asT_agr : ∀ (t : T) (d : D) (ρ ρ' : Env) (S S' : Store), asT C call t d ρ S = .ok ρ' S' → Agr t.slots ρ ρ'
  | .nm i, d, ρ, ρ', S, S', e => by rw [asT] at e; cases e; exact Agr.set i _
  | .tp ts, d, ρ, ρ', S, S', e => by
    rw [asT] at e
    cases h : tupOf ts.len d with
    | none => rw [h] at e; cases e
    | some ds => rw [h, opt_some] at e; exact asTs_agr ts ds ρ ρ' S S' e
  | .sb o i, d, ρ, ρ', S, S', e => by
    rw [asT] at e
    cases h1 : evE C call o ρ S with
    | bad => rw [h1] at e; cases e
    | err x S1 => rw [h1] at e; cases e
    | ok x S1 =>
      rw [h1, Res.bind_ok] at e
      cases h2 : evE C call i ρ S1 with
      | bad => rw [h2] at e; cases e
      | err x S1 => rw [h2] at e; cases e
      | ok y S2 =>
        rw [h2, Res.bind_ok] at e
        split at e
        · split at e
          · rename_i k _ ds _
            cases h3 : ixD ds.length k with
            | none => rw [h3] at e; cases e
            | some q => rw [h3, opt_some] at e; cases e; exact .refl
          · cases e
        · cases e
  | .fa o f, d, ρ, ρ', S, S', e => by
    rw [asT] at e
    cases h1 : evE C call o ρ S with
    | bad => rw [h1] at e; cases e
    | err x S1 => rw [h1] at e; cases e
    | ok x S1 =>
      rw [h1, Res.bind_ok] at e
      cases h2 : insOf S1 x with
      | none => rw [h2] at e; cases e
      | some p =>
        rw [h2, opt_some] at e
        cases h3 : C.clss.lookup p.2.1 with
        | none => rw [h3] at e; cases e
        | some I =>
          rw [h3, opt_some] at e
          split at e
          · cases e; exact .refl
          · cases e
theorem asTs_agr : ∀ (ts : Ts) (ds : List D) (ρ ρ' : Env) (S S' : Store), asTs C call ts ds ρ S = .ok ρ' S' → Agr ts.slots ρ ρ'
  | .nil, ds, ρ, ρ', S, S', e => by
    rw [asTs] at e
    split at e
    · cases e; exact .refl
    · cases e
  | .cons t r, ds, ρ, ρ', S, S', e => by
    rw [asTs] at e
    cases h : uncons ds with
    | none => rw [h] at e; cases e
    | some p =>
      rw [h, opt_some] at e
      cases h1 : asT C call t p.1 ρ S with
      | bad => rw [h1] at e; cases e
      | err x S1 => rw [h1] at e; cases e
      | ok ρ1 S1 =>
        rw [h1, Res.bind_ok] at e
        exact (asT_agr t p.1 ρ ρ1 S S1 h1).trans (asTs_agr r p.2 ρ1 ρ' S1 S' e)
end
theorem mapM_mem {α β : Type} {f : α → Option β} : ∀ {l : List α} {r : List β}, l.mapM f = some r → ∀ a ∈ l, ∃ b, f a = some b ∧ b ∈ r
  | [], r, e, a, h => by simp at h
  | x :: l, r, e, a, h => by
    rw [List.mapM_cons] at e
    cases h1 : f x with
    | none => rw [h1] at e; cases e
    | some b =>
      rw [h1] at e
      cases h2 : l.mapM f with
      | none => rw [h2] at e; cases e
      | some bs =>
        rw [h2] at e
        cases e
        rcases List.mem_cons.mp h with z | z
        · subst z; exact ⟨b, h1, List.mem_cons_self⟩
        · obtain ⟨c, k1, k2⟩ := mapM_mem h2 a z
          exact ⟨c, k1, List.mem_cons_of_mem _ k2⟩
def ndS (P : DP) : Q.S → Nat
  | .asg _ e => nd P e
  | .par2 _ _ a b => nd P a + nd P b
  | .par3 _ _ _ a b c => nd P a + nd P b + nd P c
  | _ => 0
def simple : Q.S → Bool
  | .asg _ _ => true
  | .par2 _ _ _ _ => true
  | .par3 _ _ _ _ _ _ => true
  | .clos _ _ => true
  | _ => false
def stepOk (C : Q.Ctx) (call : Nat → List D → Store → Res R) (P : DP) (ρ0 : Env) (lv : Bool) (h : Hist) (s : Q.S) : Bool := simple s && !(lv && (tgS s).contains P.dv) && (lv || ndS P s == 0) && sliceB C call P ρ0 h (rdS s) fun ρ => (nexts C call P (.st s) ρ).isSome
theorem step_in0 {lv : Bool} {n j c : Nat} {h : Hist} {ρ : Env} {S : Store} {s : Q.S} (O : DOk C P) (e : stepOk C (evCall C (n + 2)) P ρ0 lv h s = true) (tr : Tr C (evCall C (n + 2)) P ρ0 h ρ) (st : StOk C P lv j c ρ S) (hc : c + ndS P s ≤ 1000000) :
    ∃ ρ' S', evS C (evCall C (n + 2)) s ρ S = .ok (.nx ρ') S' ∧ (∀ ρ1 l, Le ρ1 ρ → nexts C (evCall C (n + 2)) P (.st s) ρ1 = some l → ∃ x ∈ l, Le x ρ') ∧ StOk C P lv j (c + ndS P s) ρ' S' ∧ Agr (tgS s) ρ ρ' := by
  unfold stepOk at e
  rw [Bool.and_eq_true, Bool.and_eq_true, Bool.and_eq_true] at e
  obtain ⟨⟨⟨e1, e2⟩, e0⟩, e3⟩ := e
  have hlv : lv = false → ndS P s = 0 := fun z => by
    rw [z] at e0
    exact eq_of_beq e0
  have hdv : lv = true → P.dv ∉ tgS s := fun z w => by
    rw [z, List.contains_iff_mem.mpr w] at e2
    cases e2
  obtain ⟨ρ1, l1, e4⟩ := sliceB_ok e3 tr
  obtain ⟨l, el⟩ := Option.isSome_iff_exists.mp e4
  have drw : ∀ e, (ndS P s = 0 → nd P e = 0) → nd P e ≠ 0 → lv = true := fun e k z => by
    cases lv with
    | true => rfl
    | false => exact absurd (k (hlv rfl)) z
  cases s with
  | asg t a =>
    have al : ∀ ρ2 l2, Le ρ2 ρ → nexts C (evCall C (n + 2)) P (.st (.asg t a)) ρ2 = some l2 → ∃ ds, valsOf C (evCall C (n + 2)) P a ρ2 = some ds ∧ ds.mapM (fun d => pvT C (evCall C (n + 2)) t d ρ2) = some l2 := fun ρ2 l2 _ z => Option.bind_eq_some_iff.mp z
    obtain ⟨ds1, v1, m1⟩ := al ρ1 l l1 el
    obtain ⟨d, S', ee, st', mem⟩ := vals_ok O st (drw a fun z => z) hc l1 v1
    obtain ⟨x1, p1, _⟩ := mapM_mem m1 d (mem ρ1 ds1 l1 v1)
    obtain ⟨ρ', q1, q2⟩ := pvT_ok (call := evCall C (n + 2)) st'.tb t d ρ1 ρ x1 p1 l1
    have ag := asT_agr t d ρ ρ' S' S' q1
    refine ⟨ρ', S', ?_, fun ρ2 l2 le2 z => ?_, st'.env ag hdv, ag⟩
    · rw [s_asg, ee, Res.bind_ok, settle_v, q1, calm_ok, Res.bind_ok]
    · obtain ⟨ds2, v2, m2⟩ := al ρ2 l2 le2 z
      obtain ⟨x2, p2, k2⟩ := mapM_mem m2 d (mem ρ2 ds2 le2 v2)
      obtain ⟨ρ'', q3, q4⟩ := pvT_ok (call := evCall C (n + 2)) st'.tb t d ρ2 ρ x2 p2 le2
      rw [q1] at q3
      cases q3
      exact ⟨x2, k2, q4⟩
  | par2 i k a b =>
    have al : ∀ ρ2 l2, Le ρ2 ρ → nexts C (evCall C (n + 2)) P (.st (.par2 i k a b)) ρ2 = some l2 → ∃ xs ys, valsOf C (evCall C (n + 2)) P a ρ2 = some xs ∧ valsOf C (evCall C (n + 2)) P b ρ2 = some ys ∧ l2 = xs.flatMap fun x => ys.map fun y => (ρ2.set i (some x)).set k (some y) := fun ρ2 l2 _ z => by
      obtain ⟨xs, z1, z⟩ := Option.bind_eq_some_iff.mp (show ((valsOf C (evCall C (n + 2)) P a ρ2).bind fun xs => (valsOf C (evCall C (n + 2)) P b ρ2).map fun ys => xs.flatMap fun x => ys.map fun y => (ρ2.set i (some x)).set k (some y)) = some l2 from z)
      obtain ⟨ys, z2, z3⟩ := Option.map_eq_some_iff.mp z
      exact ⟨xs, ys, z1, z2, z3.symm⟩
    have hc : c + (nd P a + nd P b) ≤ 1000000 := hc
    obtain ⟨xs, ys, v1, v2, _⟩ := al ρ1 l l1 el
    obtain ⟨x, S1, ex, st1, mx⟩ := vals_ok O st (drw a fun (z : nd P a + nd P b = 0) => by omega) (by omega) l1 v1
    obtain ⟨y, S2, ey, st2, my⟩ := vals_ok O st1 (drw b fun (z : nd P a + nd P b = 0) => by omega) (by omega) l1 v2
    have ag : Agr [i, k] ρ ((ρ.set i (some x)).set k (some y)) := (Agr.set i (some x)).trans (Agr.set k (some y))
    refine ⟨_, S2, ?_, fun ρ2 l2 le2 z => ?_, by rw [show c + ndS P (.par2 i k a b) = c + nd P a + nd P b from (Nat.add_assoc _ _ _).symm]; exact st2.env ag hdv, ag⟩
    · rw [evS, ex, Res.bind_ok, settle_v, ey, Res.bind_ok, settle_v]
    · obtain ⟨xs, ys, v3, v4, e5⟩ := al ρ2 l2 le2 z
      subst e5
      exact ⟨_, List.mem_flatMap.mpr ⟨x, mx ρ2 xs le2 v3, List.mem_map.mpr ⟨y, my ρ2 ys le2 v4, rfl⟩⟩, (le2.set i _).set k _⟩
  | par3 i k m a b d =>
    have al : ∀ ρ2 l2, Le ρ2 ρ → nexts C (evCall C (n + 2)) P (.st (.par3 i k m a b d)) ρ2 = some l2 → ∃ xs ys zs, valsOf C (evCall C (n + 2)) P a ρ2 = some xs ∧ valsOf C (evCall C (n + 2)) P b ρ2 = some ys ∧ valsOf C (evCall C (n + 2)) P d ρ2 = some zs ∧ l2 = xs.flatMap fun x => ys.flatMap fun y => zs.map fun z => ((ρ2.set i (some x)).set k (some y)).set m (some z) := fun ρ2 l2 _ z => by
      obtain ⟨xs, z1, z⟩ := Option.bind_eq_some_iff.mp (show ((valsOf C (evCall C (n + 2)) P a ρ2).bind fun xs => (valsOf C (evCall C (n + 2)) P b ρ2).bind fun ys => (valsOf C (evCall C (n + 2)) P d ρ2).map fun zs => xs.flatMap fun x => ys.flatMap fun y => zs.map fun z => ((ρ2.set i (some x)).set k (some y)).set m (some z)) = some l2 from z)
      obtain ⟨ys, z2, z⟩ := Option.bind_eq_some_iff.mp z
      obtain ⟨zs, z3, z4⟩ := Option.map_eq_some_iff.mp z
      exact ⟨xs, ys, zs, z1, z2, z3, z4.symm⟩
    have hc : c + (nd P a + nd P b + nd P d) ≤ 1000000 := hc
    obtain ⟨xs, ys, zs, v1, v2, v5, _⟩ := al ρ1 l l1 el
    obtain ⟨x, S1, ex, st1, mx⟩ := vals_ok O st (drw a fun (z : nd P a + nd P b + nd P d = 0) => by omega) (by omega) l1 v1
    obtain ⟨y, S2, ey, st2, my⟩ := vals_ok O st1 (drw b fun (z : nd P a + nd P b + nd P d = 0) => by omega) (by omega) l1 v2
    obtain ⟨z0, S3, ez, st3, mz⟩ := vals_ok O st2 (drw d fun (z : nd P a + nd P b + nd P d = 0) => by omega) (by omega) l1 v5
    have ag : Agr [i, k, m] ρ (((ρ.set i (some x)).set k (some y)).set m (some z0)) := (Agr.set i (some x)).trans ((Agr.set k (some y)).trans (Agr.set m (some z0)))
    refine ⟨_, S3, ?_, fun ρ2 l2 le2 z => ?_, by rw [show c + ndS P (.par3 i k m a b d) = c + nd P a + nd P b + nd P d from by show c + (nd P a + nd P b + nd P d) = _; omega]; exact st3.env ag hdv, ag⟩
    · rw [evS, ex, Res.bind_ok, settle_v, ey, Res.bind_ok, settle_v, ez, Res.bind_ok, settle_v]
    · obtain ⟨xs, ys, zs, v3, v4, v6, e5⟩ := al ρ2 l2 le2 z
      subst e5
      exact ⟨_, List.mem_flatMap.mpr ⟨x, mx ρ2 xs le2 v3, List.mem_flatMap.mpr ⟨y, my ρ2 ys le2 v4, List.mem_map.mpr ⟨z0, mz ρ2 zs le2 v6, rfl⟩⟩⟩, ((le2.set i _).set k _).set m _⟩
  | clos i js =>
    have ag : Agr [i] ρ (ρ.set i (some (.clos js))) := Agr.set i _
    refine ⟨_, S, s_clos st.tb, fun ρ2 l2 le2 z => ?_, st.env ag hdv, ag⟩
    have z : some [ρ2.set i (some (.clos js))] = some l2 := z
    cases z
    exact ⟨_, List.mem_singleton.mpr rfl, le2.set i _⟩
  | _ => cases e1
theorem step_ok {lv : Bool} {n j c : Nat} {h : Hist} {ρ : Env} {S : Store} {s : Q.S} (O : DOk C P) (e : stepOk C (evCall C (n + 2)) P ρ0 lv h s = true) (tr : Tr C (evCall C (n + 2)) P ρ0 h ρ) (st : StOk C P lv j c ρ S) (hc : c + ndS P s ≤ 1000000) :
    ∃ ρ' S', evS C (evCall C (n + 2)) s ρ S = .ok (.nx ρ') S' ∧ Tr C (evCall C (n + 2)) P ρ0 (.st s :: h) ρ' ∧ StOk C P lv j (c + ndS P s) ρ' S' ∧ Agr (tgS s) ρ ρ' := by
  obtain ⟨ρ', S', k1, k2, k3, k4⟩ := step_in0 O e tr st hc
  exact ⟨ρ', S', k1, ⟨ρ, tr, k2, k4.wiped⟩, k3, k4⟩
/-- the step that is taken is among those that may be -/
theorem step_in {lv : Bool} {n j c : Nat} {h : Hist} {ρ ρ' ρ1 : Env} {S S' : Store} {s : Q.S} {xs : List Env} (O : DOk C P) (e : stepOk C (evCall C (n + 2)) P ρ0 lv h s = true) (tr : Tr C (evCall C (n + 2)) P ρ0 h ρ) (st : StOk C P lv j c ρ S) (hc : c + ndS P s ≤ 1000000)
    (k1 : evS C (evCall C (n + 2)) s ρ S = .ok (.nx ρ') S') (l1 : Le ρ1 ρ) (hx : nexts C (evCall C (n + 2)) P (.st s) ρ1 = some xs) : ∃ x ∈ xs, Le x ρ' := by
  obtain ⟨ρ2, S2, m1, m2, m3, m4⟩ := step_in0 O e tr st hc
  rw [k1] at m1
  cases m1
  exact m2 ρ1 xs l1 hx
/-! ### tests -/
def strOf : D → Option Str
  | .str x => some x
  | _ => none
variable (C call P ρ0) in
def plainT (h : Hist) (e : E) (v : Bool) : Bool := sliceB C call P ρ0 h (rdE e) fun ρ => match pvE C call e ρ with
  | some (.v (.bl b)) => b == v
  | _ => false
variable (C call P ρ0) in
def subT (lv : Bool) (sub : Nat → List D → Bool) (h : Hist) (e : E) (v : Bool) : Bool := match e with
  | .call f (.cons (.var x) es) => v && lv && x == P.dv && sliceB C call P ρ0 h (rdEs es) fun ρ => match pvEs C call es ρ with
    | some ds => sub f ds
    | none => false
  | _ => false
def closOf : Hist → Nat → Option (List Nat)
  | [], _ => none
  | s :: h, i => if s.tgts.contains i then (match s with
    | .st (.clos _ js) => some js
    | _ => none) else closOf h i
variable (C call) in
def dueAt (due : E) (k : Nat) (ρ : Env) : Option Str := (pvE C call due ρ).bind fun r => (seqOf [] r).bind fun p => (p.2[k]?).bind strOf
variable (C call P ρ0) in
def wordOk (h : Hist) (w : Wrd) (due : E) (k j : Nat) : Bool :=
  let is := match C.lams[j]? with
    | some L => L.is
    | none => []
  (match sliceFst C call P ρ0 h (needs h is) (wordAt C call w j) with
    | some y => sliceB C call P ρ0 h is (fun ρ => wordAt C call w j ρ == some y) && sliceB C call P ρ0 h (rdE due) (fun ρ => dueAt C call due k ρ == some y)
    | none => false) ||
  sliceB C call P ρ0 h (is ++ rdE due) fun ρ => match wordAt C call w j ρ, dueAt C call due k ρ with
    | some y, some z => y == z
    | _, _ => false
variable (C call P ρ0) in
def wordsT (h : Hist) (o : CmpOp) (a due : E) (v : Bool) : Bool := match a with
  | .words w i _ _ => (match o with
      | .Eq => v
      | .NotEq => !v
      | _ => false) && (match C.wrds[w]?, closOf h i with
    | some w, some js => sliceB C call P ρ0 h [i] (fun ρ => match ρ[i]? with
        | some (some (.clos js')) => js' == js
        | _ => false) &&
      sliceB C call P ρ0 h (rdE due) (fun ρ => match pvE C call due ρ with
        | some r => (match seqOf [] r with
          | some (false, ds) => ds.length == js.length
          | _ => false) && eqR [] r r == some true
        | none => false) &&
      js.zipIdx.all fun p => wordOk C call P ρ0 h w due p.2 p.1
    | _, _ => false)
  | _ => false
mutual
def testE (C : Q.Ctx) (call : Nat → List D → Store → Res R) (P : DP) (ρ0 : Env) (lv : Bool) (sub : Nat → List D → Bool) (h : Hist) : E → Bool → Bool
  | .not e, v => testE C call P ρ0 lv sub h e (!v)
  | .bop o es, v => testEs C call P ρ0 lv sub h o es v || plainT C call P ρ0 h (.bop o es) v
  | .cmp o a b, v => wordsT C call P ρ0 h o a b v || plainT C call P ρ0 h (.cmp o a b) v
  | e, v => subT C call P ρ0 lv sub h e v || plainT C call P ρ0 h e v
def testEs (C : Q.Ctx) (call : Nat → List D → Store → Res R) (P : DP) (ρ0 : Env) (lv : Bool) (sub : Nat → List D → Bool) (h : Hist) : BoolOp → Es → Bool → Bool
  | _, .nil, _ => false
  | o, .cons e r, v => match r with
    | .nil => testE C call P ρ0 lv sub h e v
    | .cons e' r' => (match o with
      | .And => v
      | .Or => !v) && testE C call P ρ0 lv sub h e v && testEs C call P ρ0 lv sub h o (.cons e' r') v
end
mutual
def cntE (cf : Nat → Nat) : E → Nat
  | .not e => cntE cf e
  | .bop _ es => cntEs cf es
  | .call f _ => cf f
  | _ => 0
def cntEs (cf : Nat → Nat) : Es → Nat
  | .nil => 0
  | .cons e r => cntE cf e + cntEs cf r
end
theorem plain_ok {lv : Bool} {h : Hist} {e : E} {v : Bool} {j c : Nat} {ρ : Env} {S : Store} (z : plainT C call P ρ0 h e v = true) (tr : Tr C call P ρ0 h ρ) (st : StOk C P lv j c ρ S) : evE C call e ρ S = .ok (.v (.bl v)) S := by
  obtain ⟨ρ1, l1, e1⟩ := sliceB_ok z tr
  split at e1
  · rename_i b hb
    have := eq_of_beq e1
    subst this
    exact pvE_ok st.tb e ρ1 ρ _ hb l1
  · cases e1
theorem dueAt_ok {due : E} {k : Nat} {ρ ρ1 : Env} {S : Store} {y : Str} {r : R} {ds : List D} (ht : tblsOk C.tbls S = true) (l : Le ρ1 ρ) (e : dueAt C call due k ρ1 = some y) (hr : evE C call due ρ S = .ok r S) (hs : seqOf [] r = some (false, ds)) : ds[k]? = some (.str y) := by
  unfold dueAt at e
  obtain ⟨r', h1, e⟩ := Option.bind_eq_some_iff.mp e
  obtain ⟨p, h2, e⟩ := Option.bind_eq_some_iff.mp e
  obtain ⟨d, h3, e⟩ := Option.bind_eq_some_iff.mp e
  rw [pvE_ok ht due ρ1 ρ r' h1 l] at hr
  cases hr
  rw [hs] at h2
  cases h2
  cases d with
  | str x => cases e; exact h3
  | _ => cases e
theorem wordOk_ok {h : Hist} {w : Wrd} {due : E} {k j : Nat} {ρ : Env} {S : Store} {r : R} {ds : List D} (z : wordOk C call P ρ0 h w due k j = true) (tr : Tr C call P ρ0 h ρ) (ht : tblsOk C.tbls S = true) (hr : evE C call due ρ S = .ok r S) (hs : seqOf [] r = some (false, ds)) :
    ∃ y, word C call w ρ S j = .ok (.v (.str y)) S ∧ ds[k]? = some (.str y) := by
  unfold wordOk at z
  dsimp only at z
  rw [Bool.or_eq_true] at z
  rcases z with z | z
  · split at z
    · rename_i y _
      rw [Bool.and_eq_true] at z
      obtain ⟨ρ1, l1, e1⟩ := sliceB_ok z.1 tr
      obtain ⟨ρ2, l2, e2⟩ := sliceB_ok z.2 tr
      exact ⟨y, wordAt_ok ht l1 (eq_of_beq e1), dueAt_ok ht l2 (eq_of_beq e2) hr hs⟩
    · cases z
  · obtain ⟨ρ1, l1, e1⟩ := sliceB_ok z tr
    split at e1
    · rename_i y x hy hx
      have := eq_of_beq e1
      subst this
      exact ⟨y, wordAt_ok ht l1 hy, dueAt_ok ht l1 hx hr hs⟩
    · cases e1
theorem words_build {Wd : Nat → Str → Prop} : ∀ (js : List Nat) (ds : List D), ds.length = js.length → (∀ (k : Nat) (j : Nat), js[k]? = some j → ∃ y, Wd j y ∧ ds[k]? = some (D.str y)) → ∃ ys : List Str, ds = ys.map D.str ∧ Paired Wd js ys
  | [], [], _, _ => ⟨[], rfl, .nil⟩
  | [], d :: ds, e, _ => by simp at e
  | j :: js, [], e, _ => by simp at e
  | j :: js, d :: ds, e, h => by
    obtain ⟨y, h1, h2⟩ := h 0 j rfl
    obtain ⟨ys, h3, h4⟩ := words_build js ds (by simpa using e) fun k j e => by simpa using h (k + 1) j (by simpa using e)
    simp at h2
    subst h2
    exact ⟨y :: ys, by rw [h3]; rfl, .cons h1 h4⟩
theorem wordsT_ok {h : Hist} {o : CmpOp} {a due : E} {v : Bool} {ρ : Env} {S : Store} (z : wordsT C call P ρ0 h o a due v = true) (tr : Tr C call P ρ0 h ρ) (ht : tblsOk C.tbls S = true) : evE C call (.cmp o a due) ρ S = .ok (.v (.bl v)) S := by
  unfold wordsT at z
  split at z
  case h_2 => cases z
  rename_i wi i x k
  rw [Bool.and_eq_true] at z
  obtain ⟨zo, z⟩ := z
  split at z
  case h_2 => cases z
  rename_i w js hw hc
  rw [Bool.and_eq_true, Bool.and_eq_true] at z
  obtain ⟨⟨z1, z2⟩, z3⟩ := z
  obtain ⟨ρ1, l1, e1⟩ := sliceB_ok z1 tr
  obtain ⟨ρ2, l2, e2⟩ := sliceB_ok z2 tr
  have hi : ρ[i]? = some (some (.clos js)) := by
    split at e1
    · rename_i js' hj
      have := eq_of_beq e1
      subst this
      exact l1.at_ i _ hj
    · cases e1
  split at e2
  case h_2 => cases e2
  rename_i r hr
  rw [Bool.and_eq_true] at e2
  have er := pvE_ok ht due ρ2 ρ r hr l2
  obtain ⟨e3, e4⟩ := e2
  split at e3
  case h_2 => cases e3
  rename_i ds hs
  obtain ⟨ys, hy, hp⟩ := words_build (Wd := fun j y => word C call w ρ S j = .ok (.v (.str y)) S) js ds (eq_of_beq e3) fun k j hk => by
    have := List.all_eq_true.mp z3 (j, k) (by
      rw [List.mem_iff_getElem?]
      exact ⟨k, by rw [List.getElem?_zipIdx, hk]; simp⟩)
    exact wordOk_ok this tr ht er hs
  have ew := e_words (k := k) (x := x) hw hi hp
  rw [← hy] at ew
  have eq1 : eqR S (.t ds) r = some true := by
    have z : eqR S r r = some true := eqR0 (eq_of_beq e4)
    have same : (R.t ds).py S = r.py S := by
      cases r with
      | t es => cases hs; rfl
      | v d =>
        cases d with
        | fz es => cases hs; rfl
        | _ => cases hs
    unfold eqR at z ⊢
    rw [same]
    exact z
  rw [e_cmp, ew, Res.bind_ok, er, Res.bind_ok]
  cases o with
  | Eq =>
    have zo : v = true := zo
    rw [zo, show evCmp .Eq S (.t ds) r = eqR S (.t ds) r from rfl, eq1, opt_some]
  | NotEq =>
    have zo : v = false := (Bool.not_eq_true' v).mp zo
    rw [zo, show evCmp .NotEq S (.t ds) r = (eqR S (.t ds) r).map (!·) from rfl, eq1]
    rfl
  | _ => cases zo
/-- defs that draw, called -/
def SubOk (C : Q.Ctx) (call : Nat → List D → Store → Res R) (sub : Nat → List D → Bool) (cf : Nat → Nat) : Prop := ∀ f ds, sub f ds = true → (∀ j, Q.fill C f (.ref j :: ds) = some (.ref j :: ds)) ∧ ∀ j c S, Drw C j c S → c + cf f ≤ 1000000 → ∃ S', call f (.ref j :: ds) S = .ok (.v (.bl true)) S' ∧ Drw C j (c + cf f) S'
theorem sub_ok {lv : Bool} {sub : Nat → List D → Bool} {cf : Nat → Nat} (hs : SubOk C call sub cf) {h : Hist} {e : E} {v : Bool} {j c : Nat} {ρ : Env} {S : Store} (z : subT C call P ρ0 lv sub h e v = true) (tr : Tr C call P ρ0 h ρ) (st : StOk C P lv j c ρ S) (hc : c + cntE cf e ≤ 1000000) :
    ∃ S', evE C call e ρ S = .ok (.v (.bl v)) S' ∧ StOk C P lv j (c + cntE cf e) ρ S' := by
  unfold subT at z
  split at z
  case h_2 => cases z
  rename_i f x es
  rw [Bool.and_eq_true, Bool.and_eq_true, Bool.and_eq_true] at z
  obtain ⟨⟨⟨z1, z2⟩, z3⟩, z4⟩ := z
  have z3 := eq_of_beq z3
  subst z3 z1
  obtain ⟨ρ1, l1, e1⟩ := sliceB_ok z4 tr
  split at e1
  case h_2 => cases e1
  rename_i ds hd
  obtain ⟨g1, g2⟩ := st.dr z2
  obtain ⟨f1, f2⟩ := hs f ds e1
  rw [cntE] at hc ⊢
  obtain ⟨S', k1, k2⟩ := f2 j c S g2 hc
  refine ⟨S', ?_, ⟨k2.ok, fun _ => ⟨g1, k2⟩⟩⟩
  rw [e_call, evEs, e_var, g1]
  dsimp only
  rw [Res.bind_ok, settle_v, pvEs_ok st.tb es ρ1 ρ ds hd l1, Res.bind_ok, Res.bind_ok, f1, opt_some, k1]
theorem StOk.more {lv : Bool} {j c : Nat} {ρ : Env} {S : Store} (st : StOk C P lv j c ρ S) (k : Nat) : StOk C P lv j (c + k) ρ S := ⟨st.tb, fun z => ⟨(st.dr z).1, (st.dr z).2.mono (by omega)⟩⟩
mutual
theorem testE_ok {lv : Bool} {sub : Nat → List D → Bool} {cf : Nat → Nat} (hs : SubOk C call sub cf) {h : Hist} : ∀ (e : E) (v : Bool) (j c : Nat) (ρ : Env) (S : Store), testE C call P ρ0 lv sub h e v = true → Tr C call P ρ0 h ρ → StOk C P lv j c ρ S → c + cntE cf e ≤ 1000000 →
    ∃ S', evE C call e ρ S = .ok (.v (.bl v)) S' ∧ StOk C P lv j (c + cntE cf e) ρ S' := fun e v j c ρ S z tr st hc => by
  have pl : ∀ e', plainT C call P ρ0 h e' v = true → ∃ S', evE C call e' ρ S = .ok (.v (.bl v)) S' ∧ StOk C P lv j (c + cntE cf e') ρ S' := fun e' w => ⟨S, plain_ok w tr st, st.more _⟩
  match e, z, hc with
  | .not e, z, hc =>
    rw [testE] at z
    rw [cntE] at hc ⊢
    obtain ⟨S', h1, h2⟩ := testE_ok hs e (!v) j c ρ S z tr st hc
    refine ⟨S', ?_, h2⟩
    rw [e_not, h1, Res.bind_ok, truth_bl, opt_some, Bool.not_not]
  | .bop o es, z, hc =>
    rw [testE, Bool.or_eq_true] at z
    rcases z with z | z
    · rw [cntE] at hc ⊢
      obtain ⟨S', h1, h2⟩ := testEs_ok hs o es v j c ρ S z tr st hc
      exact ⟨S', by rw [e_bop]; exact h1, h2⟩
    · exact pl _ z
  | .cmp o a b, z, hc =>
    rw [testE, Bool.or_eq_true] at z
    rcases z with z | z
    · exact ⟨S, wordsT_ok z tr st.tb, st.more _⟩
    · exact pl _ z
  | .non, z, hc | .bl _, z, hc | .int _, z, hc | .str _, z, hc | .var _, z, hc | .glb _, z, hc | .tup _, z, hc | .lst _, z, hc | .bin _ _ _, z, hc | .neg _, z, hc | .chn _ _ _ _ _, z, hc | .ife _ _ _, z, hc | .idx _ _, z, hc | .slc _ _ _, z, hc | .rev _, z, hc
  | .call _ _, z, hc | .bi1 _ _, z, hc | .bi2 _ _ _, z, hc | .isi _ _, z, hc | .isiT _ _, z, hc | .met _ _ _, z, hc | .dct0, z, hc | .lc _ _ _ _ _, z, hc | .flc _ _ _ _ _, z, hc | .tidy _ _ _, z, hc | .lwd _ _ _, z, hc | .fld _ _, z, hc | .mth _ _ _, z, hc | .new _ _, z, hc | .flst _, z, hc | .fdct, z, hc | .flsc _, z, hc | .callF _ _, z, hc | .words _ _ _ _, z, hc | .calv _ _, z, hc
  | .fbin _ _ _, z, hc | .fslc _ _ _, z, hc | .fcall _ _, z, hc =>
    rw [testE, Bool.or_eq_true] at z
    · rcases z with z | z
      · exact sub_ok hs z tr st hc
      · exact pl _ z
    all_goals (intros; contradiction)
theorem testEs_ok {lv : Bool} {sub : Nat → List D → Bool} {cf : Nat → Nat} (hs : SubOk C call sub cf) {h : Hist} : ∀ (o : BoolOp) (es : Es) (v : Bool) (j c : Nat) (ρ : Env) (S : Store), testEs C call P ρ0 lv sub h o es v = true → Tr C call P ρ0 h ρ → StOk C P lv j c ρ S → c + cntEs cf es ≤ 1000000 →
    ∃ S', evBop C call o es ρ S = .ok (.v (.bl v)) S' ∧ StOk C P lv j (c + cntEs cf es) ρ S'
  | o, .nil, v, j, c, ρ, S, z, tr, st, hc => by rw [testEs] at z; cases z
  | o, .cons e .nil, v, j, c, ρ, S, z, tr, st, hc => by
    unfold testEs at z
    rw [cntEs, cntEs, Nat.add_zero] at hc ⊢
    rw [evBop]
    exact testE_ok hs e v j c ρ S z tr st hc
  | o, .cons e (.cons e' r'), v, j, c, ρ, S, z, tr, st, hc => by
    unfold testEs at z
    rw [Bool.and_eq_true, Bool.and_eq_true] at z
    obtain ⟨⟨z1, z2⟩, z3⟩ := z
    rw [cntEs] at hc ⊢
    obtain ⟨S1, h1, h2⟩ := testE_ok hs e v j c ρ S z2 tr st (by omega)
    obtain ⟨S2, h3, h4⟩ := testEs_ok hs o (.cons e' r') v j _ ρ S1 z3 tr h2 (by omega)
    refine ⟨S2, ?_, by rw [← Nat.add_assoc]; exact h4⟩
    rw [evBop]
    try dsimp only
    rw [h1, Res.bind_ok, truth_bl, opt_some]
    cases o with
    | And =>
      have z1 : v = true := z1
      subst z1
      exact h3
    | Or =>
      have z1 : v = false := (Bool.not_eq_true' v).mp z1
      subst z1
      exact h3
end
/-! ### domains -/
mutual
def D.same : D → D → Bool
  | .non, .non => true
  | .bl a, .bl b => a == b
  | .int a, .int b => a == b
  | .str a, .str b => a == b
  | .tup a, .tup b => D.sames a b
  | .fz a, .fz b => D.sames a b
  | .fd, .fd => true
  | _, _ => false
def D.sames : List D → List D → Bool
  | [], [] => true
  | a :: r, b :: s => D.same a b && D.sames r s
  | _, _ => false
end
mutual
theorem D.same_eq : ∀ (a b : D), D.same a b = true → a = b
  | .non, b, h => by cases b <;> first | rfl | exact absurd (show false = true from h) Bool.false_ne_true
  | .bl x, b, h => by cases b <;> first | exact absurd (show false = true from h) Bool.false_ne_true | rw [eq_of_beq (show (x == _) = true from h)]
  | .int x, b, h => by cases b <;> first | exact absurd (show false = true from h) Bool.false_ne_true | rw [eq_of_beq (show (x == _) = true from h)]
  | .str x, b, h => by cases b <;> first | exact absurd (show false = true from h) Bool.false_ne_true | rw [eq_of_beq (show (x == _) = true from h)]
  | .tup x, b, h => by cases b <;> first | exact absurd (show false = true from h) Bool.false_ne_true | rw [D.sames_eq x _ h]
  | .fz x, b, h => by cases b <;> first | exact absurd (show false = true from h) Bool.false_ne_true | rw [D.sames_eq x _ h]
  | .fd, b, h => by cases b <;> first | rfl | exact absurd (show false = true from h) Bool.false_ne_true
  | .ref _, b, h => by cases b <;> exact absurd (show false = true from h) Bool.false_ne_true
  | .fl _, b, h => by cases b <;> exact absurd (show false = true from h) Bool.false_ne_true
  | .clos _, b, h => by cases b <;> exact absurd (show false = true from h) Bool.false_ne_true
  | .fnv _, b, h => by cases b <;> exact absurd (show false = true from h) Bool.false_ne_true
theorem D.sames_eq : ∀ (a b : List D), D.sames a b = true → a = b
  | [], [], _ => rfl
  | [], b :: s, h => absurd (show false = true from h) Bool.false_ne_true
  | a :: r, [], h => absurd (show false = true from h) Bool.false_ne_true
  | a :: r, b :: s, h => by
    have h : (D.same a b && D.sames r s) = true := h
    rw [Bool.and_eq_true] at h
    rw [D.same_eq a b h.1, D.sames_eq r s h.2]
end
end
end Q
end
section
-- K5
set_option Elab.async false
set_option linter.all false
set_option maxRecDepth 100000
set_option maxHeartbeats 1000000
namespace Q
open PySem (Str Operator CmpOp BoolOp PyData Paired)
/-! ### whole defs -/
mutual
/-- slots that may be stored to -/
def tgA : Q.S → List Nat
  | .forF i _ b => i :: tgAs b
  | .for t _ b => t.slots ++ tgAs b
  | .asg t _ => t.slots
  | .par2 i j _ _ => [i, j]
  | .par3 i j k _ _ _ => [i, j, k]
  | .clos i _ => [i]
  | _ => []
def tgAs : Ss → List Nat
  | .nil => []
  | .cons s r => tgA s ++ tgAs r
end
mutual
def cntS (P : DP) (cf : Nat → Nat) : Q.S → Nat
  | .ife c _ _ => cntE cf c
  | .ret e => cntE cf e
  | .forF _ fs b => fs.length * cntSs P cf b
  | .for _ it b => (match it with
    | .rng1 (.int n) => n.toNat
    | _ => 0) * cntSs P cf b
  | .asg _ e => nd P e
  | .par2 _ _ a b => nd P a + nd P b
  | .par3 _ _ _ a b c => nd P a + nd P b + nd P c
  | _ => 0
def cntSs (P : DP) (cf : Nat → Nat) : Ss → Nat
  | .nil => 0
  | .cons s r => cntS P cf s + cntSs P cf r
end
/-- `if ..: return False` alone -/
def guardOf : Ss → Ss → Bool
  | .cons (.ret (.bl false)) .nil, .nil => true
  | _, _ => false
def intOf : It → Option Nat
  | .rng1 (.int n) => if decide (0 ≤ n) && decide (n ≤ 8) then some n.toNat else none
  | _ => none
def nameOf : T → Option Nat
  | .nm k => some k
  | _ => none
/-- what a statement leaves: the statement itself, or what may stand in each slot -/
inductive Ct where
  | keep
  | dom (L : List (Nat × List D))
  /-- for each lambda, the captured slots that it does not look at -/
  | us (l : List (List Nat))
def okOp : BoolOp → Bool → Bool
  | .And, v => v
  | .Or, v => !v
inductive Obl where
  | step (h : Hist) (s : Q.S)
  | dom (h : Hist) (s : Q.S) (L : List (Nat × List D))
  | plain (h : Hist) (e : E) (v : Bool)
  | sub (h : Hist) (e : E) (v : Bool)
  | words (h : Hist) (o : CmpOp) (w i : Nat) (due : E) (v : Bool)
  | word (h : Hist) (w : Nat) (due : E) (k j : Nat) (U : List Nat)
  | own (h : Hist) (k : Nat) (es : Es) (as : List E) (ms : List (Nat × E)) (due : E) (e2 : Option E)
  | no
/-- an own list that grows, and is compared at the end -/
def appsOf (k : Nat) : Ss → List E × Ss
  | .nil => ([], .nil)
  | .cons s r => match s with
    | .expr (.met .append (.var k') a) => if k' == k then (a :: (appsOf k r).1, (appsOf k r).2) else ([], .cons s r)
    | _ => ([], .cons s r)
def endOf (k : Nat) : Ss → Option (E × Option E)
  | .cons (.ret (.cmp .Eq (.var k') due)) .nil => if k' == k then some (due, none) else none
  | .cons (.ret (.bop .And (.cons (.cmp .Eq (.var k') due) (.cons e .nil)))) .nil => if k' == k then some (due, some e) else none
  | _ => none
/-- what is noted between -/
def midOf (k : Nat) : Ss → List (Nat × E) × Ss
  | .nil => ([], .nil)
  | .cons s r => match s with
    | .asg (.nm i) e => if i == k then ([], .cons s r) else ((i, e) :: (midOf k r).1, (midOf k r).2)
    | _ => ([], .cons s r)
def tailOf : Ss → Option (Nat × Es × Ss × E × Option E)
  | .cons (.asg (.nm k) (.lst es)) r => (endOf k (midOf k (appsOf k r).2).2).map fun p => (k, es, r, p.1, p.2)
  | _ => none
/-- the word of a lambda, by what it captured; some of it is not looked at -/
def wvU (C : Q.Ctx) (call : Nat → List D → Store → Res R) (w : Wrd) (j : Nat) (ds : List D) : Option Str := match call (C.fns.length + j) ds C.tbls with
    | .ok r S' => if tblsOk C.tbls S' && (match r with | .v d => lowD 0 66 d | .t es => es.all (lowD 0 66)) then some w.fine else none
    | .err x S' => if tblsOk C.tbls S' && (match x.val with | none => true | some d => lowD 0 66 d) then evHs w.hs x else none
    | .bad => none
def slotsU (U : List Nat) (u : Nat → D) (ρ : Env) (is : List Nat) : Option (List D) := is.mapM fun i => if U.contains i then some (u i) else (ρ[i]?).join
def wordAtU (C : Q.Ctx) (call : Nat → List D → Store → Res R) (w : Wrd) (j : Nat) (U : List Nat) (u : Nat → D) (ρ : Env) : Option Str := (C.lams[j]?).bind fun L => (slotsU U u ρ L.is).bind fun ds => wvU C call w j ds
def lamIs (C : Q.Ctx) (j : Nat) : List Nat := match C.lams[j]? with
  | some L => L.is
  | none => []
def midEnv (C : Q.Ctx) (call : Nat → List D → Store → Res R) : Env → List (Nat × E) → Option Env
  | ρ, [] => some ρ
  | ρ, p :: ms => ((pvE C call p.2 ρ).bind oneV).bind fun d => midEnv C call (ρ.set p.1 (some d)) ms
def lowAt (i : Nat) (ρ : Env) : Bool := match ρ[i]? with
  | some (some d) => lowD 0 66 d
  | _ => false
def slotD (l : List D) : Option (Option D) → Bool
  | some (some d) => l.any (D.same d)
  | _ => false
section
variable (C : Q.Ctx) (call : Nat → List D → Store → Res R) (P : DP) (ρ0 : Env) (lv : Bool) (sub : Nat → List D → Bool)
def Obl.ok (u : Nat → D) : Obl → Bool
  | .step h s => stepOk C call P ρ0 lv h s
  | .dom h s L => stepOk C call P ρ0 lv h s && (tgS s).all (fun i => L.any fun p => p.1 == i) && sliceB C call P ρ0 h (rdS s) (fun ρ => match nexts C call P (.st s) ρ with
    | some xs => xs.all fun x => L.all fun p => slotD p.2 x[p.1]?
    | none => false)
  | .plain h e v => plainT C call P ρ0 h e v
  | .sub h e v => subT C call P ρ0 lv sub h e v
  | .words h o w i due v => (match o with
      | .Eq => v
      | .NotEq => !v
      | _ => false) && (match C.wrds[w]?, closOf h i with
    | some _, some js => sliceB C call P ρ0 h [i] (fun ρ => match ρ[i]? with
        | some (some (.clos js')) => js' == js
        | _ => false) &&
      sliceB C call P ρ0 h (rdE due) (fun ρ => match pvE C call due ρ with
        | some r => (match seqOf [] r with
          | some (false, ds) => ds.length == js.length
          | _ => false) && eqR [] r r == some true
        | none => false) && (js.flatMap (lamIs C)).eraseDups.all (fun i => sliceB C call P ρ0 h [i] (lowAt i))
    | _, _ => false)
  | .word h w due k j U => (match C.wrds[w]? with
    | some w => (let is := (lamIs C j).filter fun i => !U.contains i
      (match sliceFst C call P ρ0 h (needs h is) (wordAtU C call w j U u) with
        | some y => sliceB C call P ρ0 h is (fun ρ => wordAtU C call w j U u ρ == some y) && sliceB C call P ρ0 h (rdE due) (fun ρ => dueAt C call due k ρ == some y)
        | none => false) ||
      sliceB C call P ρ0 h (is ++ rdE due) fun ρ => match wordAtU C call w j U u ρ, dueAt C call due k ρ with
        | some y, some z => y == z
        | _, _ => false)
    | none => false)
  | .own h k es as ms due e2 => sliceB C call P ρ0 h (rdEs es ++ (as.flatMap rdE ++ (ms.flatMap (fun p => rdE p.2) ++ (rdE due ++ (match e2 with
      | some e => rdE e
      | none => []))))) fun ρ => Nat.blt k ρ.length && match pvEs C call es ρ, as.mapM (fun a => (pvE C call a (ρ.set k none)).bind oneV), midEnv C call (ρ.set k none) ms with
    | some ds, some ds2, some ρm => (match pvE C call due ρm with
      | some r => Nat.blt (ds.length + ds2.length) szl && eqR [] (.t (ds ++ ds2)) r == some true && (match e2 with
        | some e => (match pvE C call e ρm with
          | some (.v (.bl b)) => b
          | _ => false)
        | none => true)
      | none => false)
    | _, _, _ => false
  | .no => false
mutual
def oblE (us : List (List Nat)) (h : Hist) : E → Bool → List Obl
  | .not e, v => oblE us h e (!v)
  | .bop o es, v => if okOp o v then oblEs us h es v else [.plain h (.bop o es) v]
  | .cmp o a due, v => match a with
    | .words w i _ _ => .words h o w i due v :: (match closOf h i with
      | some js => js.zipIdx.map fun p => .word h w due p.2 p.1 (us.getD p.2 [])
      | none => [])
    | _ => [.plain h (.cmp o a due) v]
  | .call f es, v => [.sub h (.call f es) v]
  | e, v => [.plain h e v]
def oblEs (us : List (List Nat)) (h : Hist) : Es → Bool → List Obl
  | .nil, _ => [.no]
  | .cons e r, v => match r with
    | .nil => oblE us h e v
    | .cons e' r' => oblE us h e v ++ oblEs us h (.cons e' r') v
end
abbrev Go := Hist × List Ct × List Obl
def keepGo (s : Q.S) (h : Hist) : List Ct → Option Go
  | .keep :: r => some (.st s :: h, r, [.step h s])
  | .dom L :: r => some (doms L h, r, [.dom h s L])
  | _ => none
def usOf : List Ct → List (List Nat) × List Ct
  | .us l :: r => (l, r)
  | cs => ([], cs)
mutual
def runS : Q.S → Hist → List Ct → Option Go
  | .ife c a b, h, cs => if guardOf a b then some (h, (usOf cs).2, oblE (usOf cs).1 h c false) else none
  | .forF i fs b, h, cs => if lv && i == P.dv then none else fs.foldlM (fun (g : Go) f => (runSs b (.fn i f :: g.1) g.2.1).map fun (g' : Go) => (g'.1, g'.2.1, g.2.2 ++ g'.2.2)) (h, cs, [])
  | .for t it b, h, cs => match nameOf t, intOf it with
    | some k, some _ => if lv && (k :: tgAs b).contains P.dv then none else (runSs b (.wp (k :: tgAs b) :: h) cs).map fun g => (.wp (k :: tgAs b) :: h, g.2.1, g.2.2)
    | _, _ => none
  | s, h, cs => keepGo s h cs
def runSs : Ss → Hist → List Ct → Option Go
  | .nil, h, cs => some (h, cs, [])
  | .cons s r, h, cs => (runS s h cs).bind fun g => (runSs r g.1 g.2.1).map fun g' => (g'.1, g'.2.1, g.2.2 ++ g'.2.2)
end
def runR : Ss → Hist → List Ct → Option (List Obl)
  | .nil, _, _ => none
  | .cons s r, h, cs => match tailOf (.cons s r) with
    | some (k, es, r', due, e2) => if lv && k == P.dv then none else some [.own h k es (appsOf k r').1 (midOf k (appsOf k r').2).1 due e2]
    | none => match s with
      | .ret e => some (oblE (usOf cs).1 h e true)
      | s => (runS P lv s h cs).bind fun g => (runR r g.1 g.2.1).map fun os => g.2.2 ++ os
end
def All (C : Q.Ctx) (call : Nat → List D → Store → Res R) (P : DP) (ρ0 : Env) (lv : Bool) (sub : Nat → List D → Bool) (os : List Obl) : Prop := ∀ o ∈ os, ∀ u, o.ok C call P ρ0 lv sub u = true
theorem All.l {C : Q.Ctx} {call : Nat → List D → Store → Res R} {P : DP} {ρ0 : Env} {lv : Bool} {sub : Nat → List D → Bool} {a b : List Obl} (h : All C call P ρ0 lv sub (a ++ b)) : All C call P ρ0 lv sub a := fun o ho => h o (List.mem_append_left _ ho)
theorem All.r {C : Q.Ctx} {call : Nat → List D → Store → Res R} {P : DP} {ρ0 : Env} {lv : Bool} {sub : Nat → List D → Bool} {a b : List Obl} (h : All C call P ρ0 lv sub (a ++ b)) : All C call P ρ0 lv sub b := fun o ho => h o (List.mem_append_right _ ho)
theorem All.h {C : Q.Ctx} {call : Nat → List D → Store → Res R} {P : DP} {ρ0 : Env} {lv : Bool} {sub : Nat → List D → Bool} {a : Obl} {b : List Obl} (h : All C call P ρ0 lv sub (a :: b)) : a.ok C call P ρ0 lv sub (fun _ => .non) = true := h a List.mem_cons_self _
section
variable {C : Q.Ctx} {call : Nat → List D → Store → Res R} {P : DP} {ρ0 : Env} {lv : Bool} {sub : Nat → List D → Bool} {cf : Nat → Nat}
theorem slotsU_ok {U : List Nat} {u : Nat → D} {ρ ρ1 : Env} (l : Le ρ1 ρ) : ∀ {is : List Nat} {ds : List D}, (∀ i ∈ is, ρ[i]? = some (some (u i))) → slotsU U u ρ1 is = some ds → slotsOf ρ is = some ds
  | [], ds, _, e => e
  | i :: is, ds, h, e => by
    unfold slotsU at e
    rw [List.mapM_cons] at e
    unfold slotsOf
    rw [List.mapM_cons]
    have hi := h i List.mem_cons_self
    have e1 : ∀ d, (if U.contains i = true then some (u i) else (ρ1[i]?).join) = some d → (ρ[i]?).join = some d := fun d z => by
      split at z
      · cases z
        rw [hi]
        rfl
      · cases h1 : ρ1[i]? with
        | none => rw [h1] at z; cases z
        | some o =>
          rw [h1] at z
          cases o with
          | none => cases z
          | some d' =>
            cases z
            rw [l.at_ i _ h1]
            rfl
    cases h1 : (if U.contains i = true then some (u i) else (ρ1[i]?).join) with
    | none => rw [h1] at e; cases e
    | some d =>
      rw [h1] at e
      rw [e1 d h1]
      cases h2 : is.mapM (fun i => if U.contains i = true then some (u i) else (ρ1[i]?).join) with
      | none => rw [h2] at e; cases e
      | some ds' =>
        rw [h2] at e
        have := slotsU_ok l (fun i hi => h i (List.mem_cons_of_mem _ hi)) (show slotsU U u ρ1 is = some ds' from h2)
        unfold slotsOf at this
        rw [this]
        exact e
theorem low_all {ρ : Env} : ∀ {is : List Nat} {ds : List D}, (∀ i ∈ is, lowAt i ρ = true) → slotsOf ρ is = some ds → ds.all (lowD 0 66) = true
  | [], ds, _, e => by cases e; rfl
  | i :: is, ds, h, e => by
    unfold slotsOf at e
    rw [List.mapM_cons] at e
    have hi := h i List.mem_cons_self
    unfold lowAt at hi
    split at hi
    case h_2 => cases hi
    rename_i d hd
    rw [hd] at e
    cases h2 : is.mapM (fun i => (ρ[i]?).join) with
    | none => rw [h2] at e; cases e
    | some ds' =>
      rw [h2] at e
      cases e
      rw [List.all_cons, hi, low_all (fun i hi => h i (List.mem_cons_of_mem _ hi)) (show slotsOf ρ is = some ds' from h2)]
      rfl
theorem wordAtU_ok {w : Wrd} {j : Nat} {U : List Nat} {ρ ρ1 : Env} {S : Store} {y : Str} {u : Nat → D} (ht : tblsOk C.tbls S = true) (l : Le ρ1 ρ) (hu : ∀ i ∈ lamIs C j, ρ[i]? = some (some (u i))) (hl : ∀ i ∈ lamIs C j, lowAt i ρ = true) (e : wordAtU C call w j U u ρ1 = some y) : word C call w ρ S j = .ok (.v (.str y)) S := by
  unfold wordAtU at e
  obtain ⟨L, hL, e⟩ := Option.bind_eq_some_iff.mp e
  obtain ⟨ds, hs, e⟩ := Option.bind_eq_some_iff.mp e
  have eis : lamIs C j = L.is := by
    unfold lamIs
    rw [hL]
  rw [eis] at hu hl
  have hs2 := slotsU_ok l hu hs
  refine word_of hL hs2 ht ?_
  unfold wv
  rw [if_pos (low_all hl hs2)]
  exact e
theorem words_ok2 {h : Hist} {o : CmpOp} {w i x k : Nat} {due : E} {v : Bool} {us : List (List Nat)} {ρ : Env} {S : Store} (z : All C call P ρ0 lv sub (.words h o w i due v :: (match closOf h i with
      | some js => js.zipIdx.map fun p => Obl.word h w due p.2 p.1 (us.getD p.2 [])
      | none => []))) (tr : Tr C call P ρ0 h ρ) (ht : tblsOk C.tbls S = true) : evE C call (.cmp o (.words w i x k) due) ρ S = .ok (.v (.bl v)) S := by
  have z0 := z.h
  unfold Obl.ok at z0
  rw [Bool.and_eq_true] at z0
  obtain ⟨zo, zb⟩ := z0
  split at zb
  case h_2 => cases zb
  rename_i w0 js hw hj
  rw [hj] at z
  rw [Bool.and_eq_true, Bool.and_eq_true] at zb
  obtain ⟨⟨z1, z2⟩, z3⟩ := zb
  obtain ⟨ρ1, l1, e1⟩ := sliceB_ok z1 tr
  obtain ⟨ρ2, l2, e2⟩ := sliceB_ok z2 tr
  have hi : ρ[i]? = some (some (.clos js)) := by
    split at e1
    · rename_i js' hj'
      have := eq_of_beq e1
      subst this
      exact l1.at_ i _ hj'
    · cases e1
  split at e2
  case h_2 => cases e2
  rename_i r hr
  rw [Bool.and_eq_true] at e2
  have er := pvE_ok ht due ρ2 ρ r hr l2
  obtain ⟨e3, e4⟩ := e2
  split at e3
  case h_2 => cases e3
  rename_i ds hs
  have low : ∀ j ∈ js, ∀ i ∈ lamIs C j, lowAt i ρ = true := fun j hjm i him => by
    have := List.all_eq_true.mp z3 i (List.mem_eraseDups.mpr (List.mem_flatMap.mpr ⟨j, hjm, him⟩))
    obtain ⟨ρ3, l3, e5⟩ := sliceB_ok this tr
    unfold lowAt at e5 ⊢
    split at e5
    · rename_i d hd
      rw [l3.at_ i d hd]
      exact e5
    · cases e5
  obtain ⟨ys, hy, hp⟩ := words_build (Wd := fun j y => word C call w0 ρ S j = .ok (.v (.str y)) S) js ds (eq_of_beq e3) fun k j hk => by
    have hjm : j ∈ js := List.mem_of_getElem? hk
    have zk := z (.word h w due k j (us.getD k [])) (List.mem_cons_of_mem _ (List.mem_map.mpr ⟨(j, k), by
      rw [List.mem_iff_getElem?]
      exact ⟨k, by rw [List.getElem?_zipIdx, hk]; simp⟩, rfl⟩)) (fun i => ((ρ[i]?).join).getD .non)
    have hu : ∀ i ∈ lamIs C j, ρ[i]? = some (some (((ρ[i]?).join).getD .non)) := fun i him => by
      have := low j hjm i him
      unfold lowAt at this
      split at this
      · rename_i d hd
        rw [hd]
        rfl
      · cases this
    unfold Obl.ok at zk
    dsimp only at zk
    rw [hw] at zk
    dsimp only at zk
    rw [Bool.or_eq_true] at zk
    rcases zk with zk | zk
    · split at zk
      · rename_i y _
        rw [Bool.and_eq_true] at zk
        obtain ⟨ρ3, l3, e5⟩ := sliceB_ok zk.1 tr
        obtain ⟨ρ4, l4, e6⟩ := sliceB_ok zk.2 tr
        exact ⟨y, wordAtU_ok ht l3 hu (low j hjm) (eq_of_beq e5), dueAt_ok ht l4 (eq_of_beq e6) er hs⟩
      · cases zk
    · obtain ⟨ρ3, l3, e5⟩ := sliceB_ok zk tr
      split at e5
      · rename_i y x hy hx
        have := eq_of_beq e5
        subst this
        exact ⟨y, wordAtU_ok ht l3 hu (low j hjm) hy, dueAt_ok ht l3 hx er hs⟩
      · cases e5
  have ew := e_words (k := k) (x := x) hw hi hp
  rw [← hy] at ew
  have eq1 : eqR S (.t ds) r = some true := by
    have z : eqR S r r = some true := eqR0 (eq_of_beq e4)
    have same : (R.t ds).py S = r.py S := by
      cases r with
      | t es => cases hs; rfl
      | v d =>
        cases d with
        | fz es => cases hs; rfl
        | _ => cases hs
    unfold eqR at z ⊢
    rw [same]
    exact z
  rw [e_cmp, ew, Res.bind_ok, er, Res.bind_ok]
  cases o with
  | Eq =>
    have zo : v = true := zo
    rw [zo, show evCmp .Eq S (.t ds) r = eqR S (.t ds) r from rfl, eq1, opt_some]
  | NotEq =>
    have zo : v = false := (Bool.not_eq_true' v).mp zo
    rw [zo, show evCmp .NotEq S (.t ds) r = (eqR S (.t ds) r).map (!·) from rfl, eq1]
    rfl
  | _ => cases zo
mutual
theorem oblE_ok (hs : SubOk C call sub cf) {us : List (List Nat)} {h : Hist} : ∀ (e : E) (v : Bool) (j c : Nat) (ρ : Env) (S : Store), All C call P ρ0 lv sub (oblE us h e v) → Tr C call P ρ0 h ρ → StOk C P lv j c ρ S → c + cntE cf e ≤ 1000000 →
    ∃ S', evE C call e ρ S = .ok (.v (.bl v)) S' ∧ StOk C P lv j (c + cntE cf e) ρ S' := fun e v j c ρ S z tr st hc => by
  have pl : ∀ e', All C call P ρ0 lv sub [.plain h e' v] → ∃ S', evE C call e' ρ S = .ok (.v (.bl v)) S' ∧ StOk C P lv j (c + cntE cf e') ρ S' := fun e' w => ⟨S, plain_ok w.h tr st, st.more _⟩
  match e, z, hc with
  | .not e, z, hc =>
    rw [oblE] at z
    rw [cntE] at hc ⊢
    obtain ⟨S', h1, h2⟩ := oblE_ok hs e (!v) j c ρ S z tr st hc
    refine ⟨S', ?_, h2⟩
    rw [e_not, h1, Res.bind_ok, truth_bl, opt_some, Bool.not_not]
  | .bop o es, z, hc =>
    unfold oblE at z
    split at z
    · rename_i ho
      rw [cntE] at hc ⊢
      obtain ⟨S', h1, h2⟩ := oblEs_ok hs o es v j c ρ S ho z tr st hc
      exact ⟨S', by rw [e_bop]; exact h1, h2⟩
    · exact pl _ z
  | .cmp o a b, z, hc =>
    unfold oblE at z
    split at z
    · exact ⟨S, words_ok2 z tr st.tb, st.more _⟩
    · exact pl _ z
  | .call f es, z, hc =>
    rw [oblE] at z
    exact sub_ok hs z.h tr st hc
  | .non, z, hc | .bl _, z, hc | .int _, z, hc | .str _, z, hc | .var _, z, hc | .glb _, z, hc | .tup _, z, hc | .lst _, z, hc | .bin _ _ _, z, hc | .neg _, z, hc | .chn _ _ _ _ _, z, hc | .ife _ _ _, z, hc | .idx _ _, z, hc | .slc _ _ _, z, hc | .rev _, z, hc
  | .bi1 _ _, z, hc | .bi2 _ _ _, z, hc | .isi _ _, z, hc | .isiT _ _, z, hc | .met _ _ _, z, hc | .dct0, z, hc | .lc _ _ _ _ _, z, hc | .flc _ _ _ _ _, z, hc | .tidy _ _ _, z, hc | .lwd _ _ _, z, hc | .fld _ _, z, hc | .mth _ _ _, z, hc | .new _ _, z, hc | .flst _, z, hc | .fdct, z, hc | .flsc _, z, hc | .callF _ _, z, hc | .words _ _ _ _, z, hc | .calv _ _, z, hc
  | .fbin _ _ _, z, hc | .fslc _ _ _, z, hc | .fcall _ _, z, hc =>
    rw [oblE] at z
    · exact pl _ z
    all_goals (intros; contradiction)
theorem oblEs_ok (hs : SubOk C call sub cf) {us : List (List Nat)} {h : Hist} : ∀ (o : BoolOp) (es : Es) (v : Bool) (j c : Nat) (ρ : Env) (S : Store), okOp o v = true → All C call P ρ0 lv sub (oblEs us h es v) → Tr C call P ρ0 h ρ → StOk C P lv j c ρ S → c + cntEs cf es ≤ 1000000 →
    ∃ S', evBop C call o es ρ S = .ok (.v (.bl v)) S' ∧ StOk C P lv j (c + cntEs cf es) ρ S'
  | o, .nil, v, j, c, ρ, S, ho, z, tr, st, hc => by
    rw [oblEs] at z
    exact absurd z.h (by unfold Obl.ok; exact Bool.false_ne_true)
  | o, .cons e .nil, v, j, c, ρ, S, ho, z, tr, st, hc => by
    unfold oblEs at z
    rw [cntEs, cntEs, Nat.add_zero] at hc ⊢
    rw [evBop]
    exact oblE_ok hs e v j c ρ S z tr st hc
  | o, .cons e (.cons e' r'), v, j, c, ρ, S, ho, z, tr, st, hc => by
    unfold oblEs at z
    rw [cntEs] at hc ⊢
    obtain ⟨S1, h1, h2⟩ := oblE_ok hs e v j c ρ S z.l tr st (by omega)
    obtain ⟨S2, h3, h4⟩ := oblEs_ok hs o (.cons e' r') v j _ ρ S1 ho z.r tr h2 (by omega)
    refine ⟨S2, ?_, by rw [← Nat.add_assoc]; exact h4⟩
    rw [evBop]
    try dsimp only
    rw [h1, Res.bind_ok, truth_bl, opt_some]
    cases o with
    | And =>
      have ho : v = true := ho
      subst ho
      exact h3
    | Or =>
      have ho : v = false := (Bool.not_eq_true' v).mp ho
      subst ho
      exact h3
end
theorem dom_ok {n j c : Nat} {h : Hist} {ρ : Env} {S : Store} {s : Q.S} {L : List (Nat × List D)} (O : DOk C P) {u : Nat → D} (e : (Obl.dom h s L).ok C (evCall C (n + 2)) P ρ0 lv sub u = true) (tr : Tr C (evCall C (n + 2)) P ρ0 h ρ) (st : StOk C P lv j c ρ S) (hc : c + ndS P s ≤ 1000000) :
    ∃ ρ' S', evS C (evCall C (n + 2)) s ρ S = .ok (.nx ρ') S' ∧ Tr C (evCall C (n + 2)) P ρ0 (doms L h) ρ' ∧ StOk C P lv j (c + ndS P s) ρ' S' ∧ Agr (tgS s) ρ ρ' := by
  unfold Obl.ok at e
  rw [Bool.and_eq_true, Bool.and_eq_true] at e
  obtain ⟨⟨e1, e2⟩, e3⟩ := e
  obtain ⟨ρ', S', k1, k2, k3, k4⟩ := step_ok O e1 tr st hc
  refine ⟨ρ', S', k1, ?_, k3, k4⟩
  obtain ⟨ρ1, l1, e4⟩ := sliceB_ok e3 tr
  split at e4
  case h_2 => cases e4
  rename_i xs hxs
  -- the step that was taken
  have tk : ∃ x ∈ xs, Le x ρ' := by
    obtain ⟨x, hx, lx⟩ := step_in O e1 tr st hc k1 l1 hxs
    exact ⟨x, hx, lx⟩
  obtain ⟨x, hx, lx⟩ := tk
  have ex := List.all_eq_true.mp e4 x hx
  refine tr_doms L h ρ tr k4.len (fun i d hi hd => ?_) fun p hp => ?_
  · have ni : i ∉ tgS s := fun m => by
      have := List.all_eq_true.mp e2 i m
      obtain ⟨p, hp, hpi⟩ := List.any_eq_true.mp this
      exact hi p hp (eq_of_beq hpi)
    rw [k4.at_ i ni]
    exact hd
  · have z := List.all_eq_true.mp ex p hp
    unfold slotD at z
    split at z
    · rename_i d hd
      obtain ⟨d', hd', hs⟩ := List.any_eq_true.mp z
      have := D.same_eq d d' hs
      subst this
      exact ⟨d, hd', lx.at_ p.1 d hd⟩
    · cases z
end
section
variable {C : Q.Ctx} {P : DP} {ρ0 : Env} {lv : Bool} {sub : Nat → List D → Bool} {cf : Nat → Nat} {n : Nat}
/-- one goes on -/
def Goes (C : Q.Ctx) (n : Nat) (P : DP) (ρ0 : Env) (lv : Bool) (j c k : Nat) (run : Env → Store → Res Fl) (h' : Hist) (l : List Nat) (ρ : Env) (S : Store) : Prop := ∃ ρ' S', run ρ S = .ok (.nx ρ') S' ∧ Tr C (evCall C (n + 2)) P ρ0 h' ρ' ∧ StOk C P lv j (c + k) ρ' S' ∧ Agr l ρ ρ'
theorem tr_fn {call : Nat → List D → Store → Res R} {h : Hist} {ρ : Env} {i f : Nat} (tr : Tr C call P ρ0 h ρ) : Tr C call P ρ0 (.fn i f :: h) (ρ.set i (some (.fnv f))) :=
  ⟨ρ, tr, fun ρ2 l2 le2 z => by
    have z : some [ρ2.set i (some (.fnv f))] = some l2 := z
    cases z
    exact ⟨_, List.mem_singleton.mpr rfl, le2.set i _⟩, (Agr.set i (some (.fnv f))).wiped⟩
theorem tr_wp {call : Nat → List D → Store → Res R} {h : Hist} {ρ ρ' : Env} {l : List Nat} (tr : Tr C call P ρ0 h ρ) (a : Agr l ρ ρ') : Tr C call P ρ0 (.wp l :: h) ρ' :=
  ⟨ρ, tr, fun ρ2 l2 le2 z => (by cases z), a.wiped⟩
theorem tr_wp2 {call : Nat → List D → Store → Res R} {h : Hist} {ρ ρ' : Env} {l : List Nat} (tr : Tr C call P ρ0 (.wp l :: h) ρ) (a : Agr l ρ ρ') : Tr C call P ρ0 (.wp l :: h) ρ' := by
  obtain ⟨ρp, t1, _, t3⟩ := tr
  exact ⟨ρp, t1, fun ρ2 l2 le2 z => (by cases z), a.le t3⟩
/-- what a history keeps: the slots that stay are those of an elder one -/
theorem rng8 {C : Q.Ctx} {call : Nat → List D → Store → Res R} {w : Nat} (ρ : Env) (S : Store) (hw : w ≤ 8) : evI C call (.rng1 (.int (w : Int))) ρ S = .ok (.its ((List.range w).map fun j : Nat => D.int j)) S := by
  rw [evI, e_int, Res.bind_ok]
  show (if rngOk (w : Int) = true then _ else _) = _
  rw [if_pos]
  · unfold Q.range
    rw [Int.sub_zero, Int.toNat_natCast]
    simp
  · unfold rngOk
    simp
    omega
mutual
theorem runS_ok (O : DOk C P) (hs : SubOk C (evCall C (n + 2)) sub cf) : ∀ (s : Q.S) (h : Hist) (cs : List Ct) (g : Go) (j c : Nat) (ρ : Env) (S : Store), runS P lv s h cs = some g → All C (evCall C (n + 2)) P ρ0 lv sub g.2.2 → Tr C (evCall C (n + 2)) P ρ0 h ρ → StOk C P lv j c ρ S → c + cntS P cf s ≤ 1000000 →
    Goes C n P ρ0 lv j c (cntS P cf s) (evS C (evCall C (n + 2)) s) g.1 (tgA s) ρ S := fun s h cs g j c ρ S z al tr st hc => by
  have one : tgA s = tgS s → cntS P cf s = ndS P s → keepGo s h cs = some g → Goes C n P ρ0 lv j c (cntS P cf s) (evS C (evCall C (n + 2)) s) g.1 (tgA s) ρ S := fun e1 e2 z => by
    rw [e1, e2]
    rw [e2] at hc
    unfold keepGo at z
    split at z
    · cases z
      exact step_ok O al.h tr st hc
    · cases z
      exact dom_ok O al.h tr st hc
    · cases z
  match s, z, hc, one with
  | .ife e a b, z, hc, one =>
    clear one
    rw [runS] at z
    split at z
    case isFalse => cases z
    rename_i hg
    cases z
    rw [cntS] at hc ⊢
    obtain ⟨S', h1, h2⟩ := oblE_ok hs e false j c ρ S al tr st hc
    unfold guardOf at hg
    split at hg
    · exact ⟨ρ, S', by rw [s_ife, h1, Res.bind_ok, truth_bl, opt_some, if_neg Bool.false_ne_true, evSs], tr, h2, .refl⟩
    · cases hg
  | .forF i fs b, z, hc, one =>
    clear one
    rw [runS] at z
    split at z
    case isTrue => cases z
    rename_i hi
    have hi : lv = true → P.dv ∉ [i] := fun w k => hi (by rw [w, List.mem_singleton.mp k]; exact beq_self_eq_true _)
    rw [cntS] at hc ⊢
    rw [tgA]
    have grow : ∀ (fs : List Nat) (g0 g : Go), fs.foldlM (fun (g : Go) f => (runSs P lv b (.fn i f :: g.1) g.2.1).map fun (g' : Go) => (g'.1, g'.2.1, g.2.2 ++ g'.2.2)) g0 = some g → ∃ os, g.2.2 = g0.2.2 ++ os := by
      intro fs
      induction fs with
      | nil => intro g0 g z; cases z; exact ⟨[], by simp⟩
      | cons f fs ih =>
        intro g0 g z
        rw [List.foldlM_cons] at z
        obtain ⟨g1, z1, z2⟩ := Option.bind_eq_some_iff.mp z
        obtain ⟨g2, z3, z4⟩ := Option.map_eq_some_iff.mp z1
        obtain ⟨os, e⟩ := ih g1 g z2
        subst z4
        exact ⟨g2.2.2 ++ os, by rw [e, List.append_assoc]⟩
    have key : ∀ (fs : List Nat) (g0 : Go) (c : Nat) (ρ : Env) (S : Store), fs.foldlM (fun (g : Go) f => (runSs P lv b (.fn i f :: g.1) g.2.1).map fun (g' : Go) => (g'.1, g'.2.1, g.2.2 ++ g'.2.2)) g0 = some g → Tr C (evCall C (n + 2)) P ρ0 g0.1 ρ → StOk C P lv j c ρ S → c + fs.length * cntSs P cf b ≤ 1000000 →
        Goes C n P ρ0 lv j c (fs.length * cntSs P cf b) (forL (fun d ρ S => evSs C (evCall C (n + 2)) b (ρ.set i (some d)) S) (fs.map .fnv)) g.1 (i :: tgAs b) ρ S := by
      intro fs
      induction fs with
      | nil =>
        intro g0 c ρ S z tr st hc
        cases z
        exact ⟨ρ, S, rfl, tr, by rw [List.length_nil, Nat.zero_mul]; exact st, .refl⟩
      | cons f fs ih =>
        intro g0 c ρ S z tr st hc
        rw [List.foldlM_cons] at z
        obtain ⟨g1, z1, z2⟩ := Option.bind_eq_some_iff.mp z
        obtain ⟨g2, z3, z4⟩ := Option.map_eq_some_iff.mp z1
        obtain ⟨os, eo⟩ := grow fs g1 g z2
        have al2 : All C (evCall C (n + 2)) P ρ0 lv sub g2.2.2 := by
          subst z4
          rw [eo] at al
          exact al.l.r
        have e0 : (f :: fs).length * cntSs P cf b = cntSs P cf b + fs.length * cntSs P cf b := by rw [List.length_cons, Nat.add_mul, Nat.one_mul, Nat.add_comm]
        rw [e0] at hc ⊢
        have a1 : Agr [i] ρ (ρ.set i (some (.fnv f))) := Agr.set i _
        obtain ⟨ρ1, S1, k1, k2, k3, k4⟩ := runSs_ok O hs b _ _ g2 j c _ S z3 al2 (tr_fn (f := f) tr) (st.env a1 hi) (by omega)
        obtain ⟨ρ2, S2, m1, m2, m3, m4⟩ := ih g1 _ ρ1 S1 z2 (by subst z4; exact k2) k3 (by omega)
        refine ⟨ρ2, S2, ?_, m2, by rw [← Nat.add_assoc]; exact m3, ((a1.trans k4).trans m4).mono fun x hx => ?_⟩
        · rw [List.map_cons, forL, k1, Res.bind_ok]
          exact m1
        · rcases List.mem_append.mp hx with w | w
          · exact w
          · exact w
    obtain ⟨ρ', S', k1, k2, k3, k4⟩ := key fs (h, cs, []) c ρ S z tr st hc
    exact ⟨ρ', S', by rw [evS]; exact k1, k2, k3, k4⟩
  | .for t it b, z, hc, one =>
    clear one
    rw [runS] at z
    split at z
    case h_2 => cases z
    rename_i k w ht hw
    split at z
    case isTrue => cases z
    rename_i hd
    obtain ⟨h2, hb, z⟩ := Option.map_eq_some_iff.mp z
    subst z
    have hdv : lv = true → P.dv ∉ k :: tgAs b := fun w2 m => hd (by rw [w2, List.contains_iff_mem.mpr m]; rfl)
    cases t with
    | tp _ => cases ht
    | sb _ _ => cases ht
    | fa _ _ => cases ht
    | nm k' =>
      cases ht
      unfold intOf at hw
      split at hw
      case h_2 => cases hw
      rename_i m
      split at hw
      case isFalse => cases hw
      rename_i hm
      cases hw
      rw [Bool.and_eq_true] at hm
      have m0 := of_decide_eq_true hm.1
      have m8 := of_decide_eq_true hm.2
      obtain ⟨q, rfl⟩ : ∃ q : Nat, m = q := ⟨m.toNat, by omega⟩
      rw [cntS] at hc ⊢
      rw [tgA]
      try dsimp only at hc ⊢
      rw [Int.toNat_natCast] at hc ⊢
      have key : ∀ (ds : List D) (c : Nat) (ρ : Env) (S : Store), Tr C (evCall C (n + 2)) P ρ0 (.wp (k :: tgAs b) :: h) ρ → StOk C P lv j c ρ S → c + ds.length * cntSs P cf b ≤ 1000000 →
          Goes C n P ρ0 lv j c (ds.length * cntSs P cf b) (forL (fun d ρ S => (calm (asT C (evCall C (n + 2)) (.nm k) d ρ S)).bind fun ρ S => evSs C (evCall C (n + 2)) b ρ S) ds) (.wp (k :: tgAs b) :: h) (k :: tgAs b) ρ S := by
        intro ds
        induction ds with
        | nil =>
          intro c ρ S tr st hc
          exact ⟨ρ, S, rfl, tr, by rw [List.length_nil, Nat.zero_mul]; exact st, .refl⟩
        | cons d ds ih =>
          intro c ρ S tr st hc
          have e0 : (d :: ds).length * cntSs P cf b = cntSs P cf b + ds.length * cntSs P cf b := by rw [List.length_cons, Nat.add_mul, Nat.one_mul, Nat.add_comm]
          rw [e0] at hc ⊢
          have a1 : Agr (k :: tgAs b) ρ (ρ.set k (some d)) := (Agr.set k _).mono fun x hx => by rw [List.mem_singleton.mp hx]; exact List.mem_cons_self
          obtain ⟨ρ1, S1, k1, k2, k3, k4⟩ := runSs_ok O hs b _ _ h2 j c _ S hb al (tr_wp2 tr a1) (st.env a1 hdv) (by omega)
          have a2 : Agr (k :: tgAs b) (ρ.set k (some d)) ρ1 := k4.mono fun x hx => List.mem_cons_of_mem _ hx
          obtain ⟨ρ2, S2, m1, m2, m3, m4⟩ := ih _ ρ1 S1 (tr_wp2 (tr_wp2 tr a1) a2) k3 (by omega)
          refine ⟨ρ2, S2, ?_, m2, by rw [← Nat.add_assoc]; exact m3, ((a1.trans a2).trans m4).mono fun x hx => ?_⟩
          · rw [forL, asT_nm, calm_ok, Res.bind_ok, k1, Res.bind_ok]
            exact m1
          · rcases List.mem_append.mp hx with w | w
            · exact (List.mem_append.mp w).elim id id
            · exact w
      obtain ⟨ρ', S', k1, k2, k3, k4⟩ := key ((List.range q).map fun j : Nat => D.int j) c ρ S (tr_wp tr .refl) st (by rw [List.length_map, List.length_range]; exact hc)
      rw [List.length_map, List.length_range] at k3
      exact ⟨ρ', S', by rw [s_for (rng8 ρ S (by omega))]; exact k1, k2, k3, k4⟩
  | .asg t e, z, hc, one => unfold runS at z; exact one rfl rfl z
  | .par2 i k a b, z, hc, one => unfold runS at z; exact one rfl rfl z
  | .par3 i k m a b d, z, hc, one => unfold runS at z; exact one rfl rfl z
  | .clos i js, z, hc, one => unfold runS at z; exact one rfl rfl z
  | .aug _ _ _, z, hc, _ | .expr _, z, hc, _ | .whl _ _, z, hc, _ | .ret _, z, hc, _ | .ret0, z, hc, _ | .pass, z, hc, _ | .brk, z, hc, _ | .cont, z, hc, _ | .hole _, z, hc, _ | .raise _ _, z, hc, _ =>
    unfold runS keepGo at z
    exfalso
    split at z
    · cases z
      exact absurd al.h (by unfold Obl.ok stepOk simple; simp)
    · cases z
      exact absurd al.h (by unfold Obl.ok stepOk simple; simp)
    · cases z
theorem runSs_ok (O : DOk C P) (hs : SubOk C (evCall C (n + 2)) sub cf) : ∀ (b : Ss) (h : Hist) (cs : List Ct) (g : Go) (j c : Nat) (ρ : Env) (S : Store), runSs P lv b h cs = some g → All C (evCall C (n + 2)) P ρ0 lv sub g.2.2 → Tr C (evCall C (n + 2)) P ρ0 h ρ → StOk C P lv j c ρ S → c + cntSs P cf b ≤ 1000000 →
    Goes C n P ρ0 lv j c (cntSs P cf b) (evSs C (evCall C (n + 2)) b) g.1 (tgAs b) ρ S
  | .nil, h, cs, g, j, c, ρ, S, z, al, tr, st, hc => by
    rw [runSs] at z
    cases z
    exact ⟨ρ, S, by rw [evSs], tr, by rw [cntSs]; exact st, .refl⟩
  | .cons s r, h, cs, g, j, c, ρ, S, z, al, tr, st, hc => by
    rw [runSs] at z
    obtain ⟨g1, z1, z2⟩ := Option.bind_eq_some_iff.mp z
    obtain ⟨g2, z4, z3⟩ := Option.map_eq_some_iff.mp z2
    clear z2
    subst z3
    rw [cntSs] at hc ⊢
    rw [tgAs]
    obtain ⟨ρ1, S1, k1, k2, k3, k4⟩ := runS_ok O hs s h cs g1 j c ρ S z1 (All.l al) tr st (by omega)
    obtain ⟨ρ2, S2, m1, m2, m3, m4⟩ := runSs_ok O hs r _ _ g2 j _ ρ1 S1 z4 (All.r al) k2 k3 (by omega)
    exact ⟨ρ2, S2, by rw [ss_nx k1, m1], m2, by rw [← Nat.add_assoc]; exact m3, k4.trans m4⟩
end
theorem apps_ok {n : Nat} {k m : Nat} {ρ ρ1 : Env} (hk : ρ[k]? = some (some (.ref m))) (l1 : Le ρ1 ρ) (hm : C.tbls.length ≤ m) : ∀ (r : Ss) (ds ds2 : List D) (S : Store), tblsOk C.tbls S = true → S[m]? = some (.lst ds) → ds.length + ds2.length < szl → (appsOf k r).1.mapM (fun a => (pvE C (evCall C (n + 2)) a ρ1).bind oneV) = some ds2 →
    ∃ S', tblsOk C.tbls S' = true ∧ S'[m]? = some (.lst (ds ++ ds2)) ∧ (∀ i, i ≠ m → S'[i]? = S[i]?) ∧ S'.length = S.length ∧ evSs C (evCall C (n + 2)) r ρ S = evSs C (evCall C (n + 2)) (appsOf k r).2 ρ S'
  | .nil, ds, ds2, S, ht, hS, hz, e => by
    cases (show some [] = some ds2 from e)
    exact ⟨S, ht, by rw [List.append_nil]; exact hS, fun _ _ => rfl, rfl, rfl⟩
  | .cons s r, ds, ds2, S, ht, hS, hz, e => by
    unfold appsOf at e ⊢
    split at e
    · rename_i k' a
      try dsimp only
      by_cases hkk : (k' == k) = true
      · rw [if_pos hkk] at e ⊢
        have := eq_of_beq hkk
        subst this
        rw [List.mapM_cons] at e
        cases h1 : (pvE C (evCall C (n + 2)) a ρ1).bind oneV with
        | none => rw [h1] at e; cases e
        | some d =>
          rw [h1] at e
          cases h2 : (appsOf k' r).1.mapM (fun a => (pvE C (evCall C (n + 2)) a ρ1).bind oneV) with
          | none => rw [h2] at e; cases e
          | some ds3 =>
            rw [h2] at e
            cases (show some (d :: ds3) = some ds2 from e)
            obtain ⟨r0, g1, g2⟩ := Option.bind_eq_some_iff.mp h1
            have ev : evE C (evCall C (n + 2)) a ρ S = .ok (.v d) S := by
              cases r0 with
              | t _ => cases g2
              | v d' => cases g2; exact pvE_ok ht a ρ1 ρ _ g1 l1
            have lt := (List.getElem?_eq_some_iff.mp hS).1
            rw [List.length_cons] at hz
            obtain ⟨S', y1, y2, y3, y4, y5⟩ := apps_ok hk l1 hm r (ds ++ [d]) ds3 (S.set m (.lst (ds ++ [d]))) (tbls_ext ht fun i hi => List.getElem?_set_ne (by omega)) (List.getElem?_set_self lt) (by rw [List.length_append, List.length_singleton]; omega) h2
            refine ⟨S', y1, by rw [y2, List.append_assoc]; rfl, fun i hi => by rw [y3 i hi, List.getElem?_set_ne (Ne.symm hi)], by rw [y4, List.length_set], ?_⟩
            rw [← y5]
            refine ss_nx ?_
            rw [evS, evE, e_var, hk]
            dsimp only
            rw [Res.bind_ok]
            dsimp only
            rw [hS]
            dsimp only
            rw [ev, Res.bind_ok, settle_v]
            show (match S[m]? with
              | some (.lst ds) => if Nat.blt ds.length szl then Res.ok (R.v .non) (S.set m (.lst (ds ++ [d]))) else .bad
              | _ => .bad).bind _ = _
            rw [hS]
            dsimp only
            rw [if_pos (Nat.blt_eq.mpr (by omega))]
            rfl
      · rw [if_neg hkk] at e ⊢
        cases (show some [] = some ds2 from e)
        exact ⟨S, ht, by rw [List.append_nil]; exact hS, fun _ _ => rfl, rfl, rfl⟩
    · cases (show some [] = some ds2 from e)
      exact ⟨S, ht, by rw [List.append_nil]; exact hS, fun _ _ => rfl, rfl, rfl⟩
theorem mid_ok {n k : Nat} {S : Store} {x : D} (ht : tblsOk C.tbls S = true) : ∀ (r : Ss) (ρ1 ρ ρm : Env), ρ[k]? = some (some x) → Le ρ1 ρ → midEnv C (evCall C (n + 2)) ρ1 (midOf k r).1 = some ρm →
    ∃ ρ', evSs C (evCall C (n + 2)) r ρ S = evSs C (evCall C (n + 2)) (midOf k r).2 ρ' S ∧ ρ'[k]? = some (some x) ∧ Le ρm ρ'
  | .nil, ρ1, ρ, ρm, hk, l, e => by
    cases (show some ρ1 = some ρm from e)
    exact ⟨ρ, rfl, hk, l⟩
  | .cons s r, ρ1, ρ, ρm, hk, l, e => by
    unfold midOf at e ⊢
    split at e
    · rename_i i a
      try dsimp only
      by_cases hik : (i == k) = true
      · rw [if_pos hik] at e ⊢
        cases (show some ρ1 = some ρm from e)
        exact ⟨ρ, rfl, hk, l⟩
      · rw [if_neg hik] at e ⊢
        obtain ⟨d, h1, h2⟩ := Option.bind_eq_some_iff.mp (show ((pvE C (evCall C (n + 2)) a ρ1).bind oneV).bind _ = some ρm from e)
        obtain ⟨r0, g1, g2⟩ := Option.bind_eq_some_iff.mp h1
        cases r0 with
        | t _ => cases g2
        | v d' =>
          cases g2
          have ev := pvE_ok (S := S) ht a ρ1 ρ _ g1 l
          have nk : i ≠ k := fun z => hik (by rw [z]; exact beq_self_eq_true _)
          obtain ⟨ρ', f1, f2, f3⟩ := mid_ok ht r (ρ1.set i (some d)) (ρ.set i (some d)) ρm (by rw [List.getElem?_set_ne nk]; exact hk) (l.set i (some d)) h2
          refine ⟨ρ', ?_, f2, f3⟩
          rw [← f1]
          refine ss_nx ?_
          rw [s_asg, ev, Res.bind_ok, settle_v, asT_nm, calm_ok, Res.bind_ok]
    · cases (show some ρ1 = some ρm from e)
      exact ⟨ρ, rfl, hk, l⟩
theorem own_ok {n j c k : Nat} {h : Hist} {b r : Ss} {es : Es} {due : E} {e2 : Option E} {ρ : Env} {S : Store} (ht : tailOf b = some (k, es, r, due, e2)) (al : All C (evCall C (n + 2)) P ρ0 lv sub [.own h k es (appsOf k r).1 (midOf k (appsOf k r).2).1 due e2]) (tr : Tr C (evCall C (n + 2)) P ρ0 h ρ) (st : StOk C P lv j c ρ S) (hk : lv = true → k ≠ P.dv) :
    ∃ S', evSs C (evCall C (n + 2)) b ρ S = .ok (.rt (.v (.bl true))) S' ∧ StOk C P lv j c ρ S' := by
  have z := al.h
  unfold Obl.ok at z
  obtain ⟨ρ1, l1, e⟩ := sliceB_ok z tr
  rw [Bool.and_eq_true] at e
  obtain ⟨ek, e⟩ := e
  split at e
  case h_2 => cases e
  rename_i ds ds2 ρm h1 h2 hm
  split at e
  case h_2 => cases e
  rename_i rd h3
  rw [Bool.and_eq_true, Bool.and_eq_true] at e
  obtain ⟨⟨ez, eq⟩, ee⟩ := e
  unfold tailOf at ht
  split at ht
  case h_2 => cases ht
  rename_i k' es' r'
  obtain ⟨⟨due', e2'⟩, hp, hq⟩ := Option.map_eq_some_iff.mp ht
  cases hq
  have hkl : k < ρ.length := by rw [← l1.len]; exact Nat.blt_eq.mp ek
  have ev1 := pvEs_ok (S := S) st.tb es ρ1 ρ ds h1 l1
  have s1 : evS C (evCall C (n + 2)) (.asg (.nm k) (.lst es)) ρ S = .ok (.nx (ρ.set k (some (.ref S.length)))) (S ++ [.lst ds]) := by
    rw [s_asg, e_lst, ev1, Res.bind_ok, Res.bind_ok, settle_t, asT_nm, calm_ok, Res.bind_ok]
  have tb2 : tblsOk C.tbls (S ++ [Cell.lst ds]) = true := tbls_ext st.tb fun i hi => List.getElem?_append_left (Nat.lt_of_lt_of_le hi (tbls_len st.tb))
  obtain ⟨S', y1, y2, y3, y4, y5⟩ := apps_ok (n := n) (k := k) (m := S.length) (ρ := ρ.set k (some (.ref S.length))) (ρ1 := ρ1.set k none) (List.getElem?_set_self hkl) (l1.drop k _) (tbls_len st.tb) r ds ds2 (S ++ [.lst ds]) tb2 (by simp) (Nat.blt_eq.mp ez) h2
  obtain ⟨ρ', m1, m2, m3⟩ := mid_ok (n := n) (k := k) y1 (appsOf k r).2 (ρ1.set k none) (ρ.set k (some (.ref S.length))) ρm (List.getElem?_set_self hkl) (l1.drop k _) hm
  have evd := pvE_ok (S := S') y1 due' ρm ρ' rd h3 m3
  have cmp : evE C (evCall C (n + 2)) (.cmp .Eq (.var k) due') ρ' S' = .ok (.v (.bl true)) S' := by
    rw [e_cmp, e_var, m2]
    dsimp only
    rw [Res.bind_ok, evd, Res.bind_ok]
    have eq1 : eqR S' (.v (.ref S.length)) rd = some true := by
      have z : eqR S' (.t (ds ++ ds2)) rd = some true := eqR0 (eq_of_beq eq)
      have same : (R.v (.ref S.length)).py S' = (R.t (ds ++ ds2)).py S' := by
        show (match S'[S.length]? with
          | some (.lst ds) => (ds.mapM (D.py S' 65)).map PyData.list
          | _ => none) = _
        rw [y2]
        rfl
      unfold eqR at z ⊢
      rw [same]
      exact z
    rw [show evCmp .Eq S' (.v (.ref S.length)) rd = eqR S' (.v (.ref S.length)) rd from rfl, eq1, opt_some]
  have fin : StOk C P lv j c ρ S' := ⟨y1, fun w => by
    obtain ⟨g1, g2⟩ := st.dr w
    refine ⟨g1, ?_, y1, g2.lt⟩
    obtain ⟨a, s, t, q, q2⟩ := g2.dice
    have lt := g2.dice.lt
    exact ⟨a, s, t, by rw [y3 j (by omega), List.getElem?_append_left lt]; exact q, q2⟩⟩
  refine ⟨S', ?_, fin⟩
  rw [ss_nx s1, y5, m1]
  generalize (midOf k (appsOf k r).2).2 = r2 at hp ⊢
  unfold endOf at hp
  split at hp
  · split at hp
    · rename_i q
      have := eq_of_beq q
      subst this
      cases hp
      exact ss_rt (by rw [s_ret, cmp, Res.bind_ok])
    · cases hp
  · split at hp
    · rename_i k2 d2 e q
      have := eq_of_beq q
      subst this
      cases hp
      dsimp only at ee
      split at ee
      · rename_i b hb
        subst ee
        have ev3 := pvE_ok (S := S') y1 e ρm ρ' _ hb m3
        refine ss_rt ?_
        rw [s_ret, e_bop, bop_two, cmp, Res.bind_ok, truth_bl, opt_some]
        dsimp only
        rw [if_pos rfl, bop_one, ev3, Res.bind_ok]
      · cases ee
    · cases hp
  · cases hp
theorem runR_ok (O : DOk C P) (hs : SubOk C (evCall C (n + 2)) sub cf) : ∀ (b : Ss) (h : Hist) (cs : List Ct) (os : List Obl) (j c : Nat) (ρ : Env) (S : Store), runR P lv b h cs = some os → All C (evCall C (n + 2)) P ρ0 lv sub os → Tr C (evCall C (n + 2)) P ρ0 h ρ → StOk C P lv j c ρ S → c + cntSs P cf b ≤ 1000000 →
    ∃ ρ' S', evSs C (evCall C (n + 2)) b ρ S = .ok (.rt (.v (.bl true))) S' ∧ StOk C P lv j (c + cntSs P cf b) ρ' S'
  | .nil, h, cs, os, j, c, ρ, S, z, al, tr, st, hc => by rw [runR] at z; cases z
  | .cons s r, h, cs, os, j, c, ρ, S, z, al, tr, st, hc => by
    unfold runR at z
    split at z
    · rename_i k es r' due e2 ht
      split at z
      case isTrue => cases z
      rename_i hk
      cases z
      obtain ⟨S', w1, w2⟩ := own_ok ht al tr st (fun w m => hk (by rw [w, m]; exact beq_self_eq_true _))
      exact ⟨_, S', w1, w2.more _⟩
    have main : ((runS P lv s h cs).bind fun g => (runR P lv r g.1 g.2.1).map fun os => g.2.2 ++ os) = some os → ∃ ρ' S', evSs C (evCall C (n + 2)) (.cons s r) ρ S = .ok (.rt (.v (.bl true))) S' ∧ StOk C P lv j (c + cntSs P cf (.cons s r)) ρ' S' := fun z => by
      rw [cntSs] at hc ⊢
      obtain ⟨g1, z1, z2⟩ := Option.bind_eq_some_iff.mp z
      obtain ⟨os2, z4, z3⟩ := Option.map_eq_some_iff.mp z2
      clear z2
      subst z3
      obtain ⟨ρ1, S1, k1, k2, k3, k4⟩ := runS_ok O hs s h cs g1 j c ρ S z1 al.l tr st (by omega)
      obtain ⟨ρ2, S2, m1, m2⟩ := runR_ok O hs r _ _ os2 j _ ρ1 S1 z4 al.r k2 k3 (by omega)
      exact ⟨ρ2, S2, by rw [ss_nx k1, m1], by rw [← Nat.add_assoc]; exact m2⟩
    split at z
    · rename_i e _
      cases z
      rw [cntSs, cntS] at hc ⊢
      obtain ⟨S', h1, h2⟩ := oblE_ok hs e true j c ρ S al tr st (by omega)
      exact ⟨ρ, S', ss_rt (by rw [s_ret, h1, Res.bind_ok]), by rw [← Nat.add_assoc]; exact h2.more _⟩
    · exact main z
/-! ### defs that draw -/
def dslots (F : Fn) (k : Nat) (ds : List D) : Env := none :: (ds.map some ++ List.replicate (F.ns - (k + 1)) none)
theorem Drw.take {j c n : Nat} {S : Store} (h : Drw C j c S) (hn : j < n) : Drw C j c (S.take n) := by
  refine ⟨?_, tbls_ext h.ok fun i hi => List.getElem?_take_of_lt (by have := h.lt; omega), h.lt⟩
  obtain ⟨a, s, t, e, r⟩ := h.dice
  exact ⟨a, s, t, by rw [List.getElem?_take_of_lt hn]; exact e, r⟩
theorem ev_drw {m i j c c' : Nat} {F : Fn} {ds : List D} {S S' : Store} {d : D} (h : C.fns[i]? = some F) (hl : ds.length = F.np) (hd : ∀ m, d ≠ .ref m) (T0 : Drw C j c' S) (e : evSs C (evCall C m) F.body (start F ds) S = .ok (.rt (.v d)) S') (T : Drw C j c S') : ∃ S2, evCall C (m + 1) i ds S = .ok (.v d) S2 ∧ Drw C j c S2 := by
  rw [ev_call h hl, e]
  obtain ⟨S2, e2, z⟩ := fin_val (n := S.length) (d := d) (S := S') hd
  refine ⟨S2, e2, ?_⟩
  rcases z with z | ⟨_, z⟩
  · subst z; exact T
  · subst z; exact T.take T0.dice.lt
theorem le_head {o : Option D} {l : Env} : Le (none :: l) (o :: l) := ⟨by simp, fun i d e => by
  cases i with
  | zero => simp at e
  | succ i => simpa using e⟩
/-- a def that draws keeps its promise, by its obligations -/
theorem def_ok {pick roll f m : Nat} {ds : List D} {F : Fn} {cs : List Ct} {os : List Obl} (O : DOk C ⟨pick, roll, 0⟩) (hs : SubOk C (evCall C (n + 2)) sub cf) (hF : C.fns[f]? = some F) (hnp : F.np = ds.length + 1)
    (hr : runR ⟨pick, roll, 0⟩ true F.body [] cs = some os) (al : All C (evCall C (n + 2)) ⟨pick, roll, 0⟩ (dslots F ds.length ds) true sub os) (hm : cntSs ⟨pick, roll, 0⟩ cf F.body ≤ m) :
    (∀ j, Q.fill C f (.ref j :: ds) = some (.ref j :: ds)) ∧ ∀ j c S, Drw C j c S → c + m ≤ 1000000 → ∃ S', evCall C (n + 3) f (.ref j :: ds) S = .ok (.v (.bl true)) S' ∧ Drw C j (c + m) S' := by
  have hnp : (D.ref 0 :: ds).length = F.np := hnp.symm
  refine ⟨fun j => fill_of hF hnp, fun j c S T hc => ?_⟩
  have hst : start F (.ref j :: ds) = some (.ref j) :: (ds.map some ++ List.replicate (F.ns - (ds.length + 1)) none) := rfl
  obtain ⟨ρ', S', k1, k2⟩ := runR_ok O hs F.body [] cs os j c (start F (.ref j :: ds)) S hr al (by rw [hst]; exact le_head) ⟨T.ok, fun _ => ⟨by rw [hst]; rfl, T⟩⟩ (by omega)
  obtain ⟨S2, e2, T2⟩ := ev_drw (d := .bl true) (ds := .ref j :: ds) hF (by simpa using hnp) (fun _ w => nomatch w) T k1 (k2.dr rfl).2
  exact ⟨S2, e2, T2.mono (by omega)⟩
/-- such defs, by their places and arguments -/
structure Sb where
  f : Nat
  ds : List D
  m : Nat
def Sb.is (b : Sb) (f : Nat) (ds : List D) : Bool := b.f == f && D.sames b.ds ds
def subOf (l : List Sb) (f : Nat) (ds : List D) : Bool := l.any fun b => b.is f ds
def cntOfS (l : List Sb) (f : Nat) : Nat := match l.find? (fun b => b.f == f) with
  | some b => b.m
  | none => 0
theorem subs_ok {call : Nat → List D → Store → Res R} {l : List Sb} (hl : ∀ b ∈ l, b.m = cntOfS l b.f) (h : ∀ b ∈ l, (∀ j, Q.fill C b.f (.ref j :: b.ds) = some (.ref j :: b.ds)) ∧ ∀ j c S, Drw C j c S → c + b.m ≤ 1000000 → ∃ S', call b.f (.ref j :: b.ds) S = .ok (.v (.bl true)) S' ∧ Drw C j (c + b.m) S') : SubOk C call (subOf l) (cntOfS l) := by
  intro f ds z
  unfold subOf at z
  obtain ⟨b, hb, z⟩ := List.any_eq_true.mp z
  unfold Sb.is at z
  rw [Bool.and_eq_true] at z
  have e1 := eq_of_beq z.1
  have e2 := D.sames_eq _ _ z.2
  subst e1 e2
  rw [← hl b hb]
  exact h b hb
theorem no_sub {call : Nat → List D → Store → Res R} : SubOk C call (subOf []) (cntOfS []) := by
  intro f ds z
  exact absurd (show false = true from z) Bool.false_ne_true
end
end Q
end
section
-- K6
set_option Elab.async false
set_option linter.all false
set_option maxRecDepth 100000
set_option maxHeartbeats 1000000
namespace Q
open PySem (Str Operator CmpOp BoolOp PyData Paired)
/-! ### the law -/
def cntOf : E → Option Int
  | .bi2 .max (.int 1) (.bi2 .min (.int m) (.bi1 .len (.var 0))) => if decide (1 ≤ m) && decide (m ≤ 5) then some m else none
  | _ => none
def spotOf (P : DP) (dice : Nat) : Q.S → Option (Nat × E × Ss)
  | .for (.nm k) (.rng1 c) (.cons (.asg (.nm dv) (.call f (.cons (.var 0) (.cons (.var k') .nil)))) b) => if f == dice && k' == k && dv == P.dv && (cntOf c).isSome then some (k, c, b) else none
  | _ => none
def lawW (P : DP) (k : Nat) (b : Ss) : Stp := .wp (k :: P.dv :: tgAs b)
def spotB (P : DP) (cf : Nat → Nat) (ρ0 : Env) (k : Nat) (b r : Ss) : Bool := Nat.blt k ρ0.length && Nat.blt P.dv ρ0.length && !(k == 0) && !(P.dv == 0) && !(k == P.dv) && !(tgAs b).contains 0 && Nat.ble (cntSs P cf b) 1000000 && Nat.ble (cntSs P cf r) 1000000
/-- what is left to be looked at: where no dice are, where they are -/
def runL (P : DP) (dice : Nat) (ρ0 : Env) (cf : Nat → Nat) : Ss → Hist → List Ct → Option (List Obl × List Obl)
  | .nil, _, _ => none
  | .cons s r, h, cs => match spotOf P dice s with
    | some (k, _, b) => if spotB P cf ρ0 k b r then (runSs P true b (lawW P k b :: h) cs).bind fun g => (runR P false r (lawW P k b :: h) g.2.1).map fun os => (os, g.2.2) else none
    | none => (runS P false s h cs).bind fun g => if !(tgA s).contains 0 && Nat.ble (cntS P cf s) 1000000 then (runL P dice ρ0 cf r g.1 g.2.1).map fun p => (g.2.2 ++ p.1, p.2) else none
section
variable {C : Q.Ctx} {P : DP} {ρ0 : Env} {sub : Nat → List D → Bool} {cf : Nat → Nat} {n dice : Nat}
theorem start_dice {S : Store} {a s : Int} (h1 : 0 ≤ a) (h2 : 0 ≤ s) (h3 : Lt 2000 a) (h4 : Lt 200 s) : Dice (S ++ [.lst [.int a, .int s, .int 0]]) S.length 0 :=
  ⟨a, s, 0, by simp, h1, h2, by decide, by decide, h3, h4⟩
theorem cnt_ok {call : Nat → List D → Store → Res R} {c : E} {m : Int} (h : cntOf c = some m) (ns : List Int) : ∃ q : Nat, q ≤ 5 ∧ ∀ ρ S, ρ[0]? = some (some (.fl (ns.map .int))) → evE C call c ρ S = .ok (.v (.int q)) S := by
  unfold cntOf at h
  split at h
  case h_2 => cases h
  rename_i k
  split at h
  case isFalse => cases h
  rename_i hk
  rw [Bool.and_eq_true] at hk
  have k1 := of_decide_eq_true hk.1
  have k5 := of_decide_eq_true hk.2
  refine ⟨(if (if (ns.length : Int) < k then (ns.length : Int) else k) > 1 then (if (ns.length : Int) < k then (ns.length : Int) else k) else 1).toNat, ?_, fun ρ S hρ => ?_⟩
  · split <;> split <;> omega
  · simp only [e_bi2, e_int, e_bi1, e_var, hρ, Res.bind_ok, len_fl, min_int, max_int, List.length_map]
    congr 3
    split <;> split <;> omega
theorem rng_of {call : Nat → List D → Store → Res R} {c : E} {w : Nat} {ρ : Env} {S : Store} (h : evE C call c ρ S = .ok (.v (.int w)) S) (hw : w ≤ 8) : evI C call (.rng1 c) ρ S = .ok (.its ((List.range w).map fun j : Nat => D.int j)) S := by
  rw [evI, h, Res.bind_ok]
  show (if rngOk (w : Int) = true then _ else _) = _
  rw [if_pos]
  · unfold Q.range
    rw [Int.sub_zero, Int.toNat_natCast]
    simp
  · unfold rngOk
    simp
    omega
theorem calmSt {j c : Nat} {ρ : Env} {S : Store} (h : tblsOk C.tbls S = true) : StOk C P false j c ρ S := ⟨h, fun z => nomatch z⟩
theorem spot_ok (O : DOk C P) (hs : SubOk C (evCall C (n + 2)) sub cf) (hd : C.fns[dice]? = some F_law_dice) {s : Q.S} {h : Hist} {k : Nat} {c : E} {b : Ss} {ns : List Int} {ρ : Env} {S : Store} (e : spotOf P dice s = some (k, c, b)) (k0 : (k == 0) = false) (d0 : (P.dv == 0) = false) (kd : (k == P.dv) = false) (t0 : (tgAs b).contains 0 = false)
    {cs : List Ct} {g0 : Go} (z : runSs P true b (lawW P k b :: h) cs = some g0) (al : All C (evCall C (n + 2)) P ρ0 true sub g0.2.2) (hc : cntSs P cf b ≤ 1000000) (tr : Tr C (evCall C (n + 2)) P ρ0 h ρ) (ht : tblsOk C.tbls S = true) (hρ : ρ[0]? = some (some (.fl (ns.map .int)))) (hl : P.dv < ρ.length) (hk0 : k < ρ.length) :
    ∃ ρ' S', evS C (evCall C (n + 2)) s ρ S = .ok (.nx ρ') S' ∧ Tr C (evCall C (n + 2)) P ρ0 (lawW P k b :: h) ρ' ∧ tblsOk C.tbls S' = true ∧ ρ'[0]? = some (some (.fl (ns.map .int))) ∧ ρ.length = ρ'.length := by
  unfold spotOf at e
  split at e
  case h_2 => cases e
  rename_i k1 c1 dv f k2 b1
  split at e
  case isFalse => cases e
  rename_i hh
  cases e
  rw [Bool.and_eq_true, Bool.and_eq_true, Bool.and_eq_true] at hh
  obtain ⟨⟨⟨hf, hk⟩, hv⟩, hcnt⟩ := hh
  have hf := eq_of_beq hf
  have hk := eq_of_beq hk
  have hv := eq_of_beq hv
  subst hf hk hv
  obtain ⟨m, hm⟩ := Option.isSome_iff_exists.mp hcnt
  obtain ⟨q, hq, eq⟩ := cnt_ok (C := C) (call := evCall C (n + 2)) hm ns
  have nk : (0 : Nat) ≠ k2 := fun w => by rw [← w] at k0; cases k0
  have nd : (0 : Nat) ≠ P.dv := fun w => by rw [← w] at d0; cases d0
  have nkd : k2 ≠ P.dv := fun w => by rw [w, beq_self_eq_true] at kd; cases kd
  have nt : (0 : Nat) ∉ tgAs b := fun w => by rw [List.contains_iff_mem.mpr w] at t0; cases t0
  have key : ∀ (l : List Nat), (∀ x ∈ l, x < 5) → ∀ (ρ : Env) (S : Store), Tr C (evCall C (n + 2)) P ρ0 (lawW P k2 b :: h) ρ → tblsOk C.tbls S = true → ρ[0]? = some (some (.fl (ns.map .int))) → P.dv < ρ.length → k2 < ρ.length →
      ∃ ρ' S', forL (fun d ρ S => (calm (asT C (evCall C (n + 2)) (.nm k2) d ρ S)).bind fun ρ S => evSs C (evCall C (n + 2)) (.cons (.asg (.nm P.dv) (.call f (.cons (.var 0) (.cons (.var k2) .nil)))) b) ρ S) (l.map fun j : Nat => D.int j) ρ S = .ok (.nx ρ') S' ∧ Tr C (evCall C (n + 2)) P ρ0 (lawW P k2 b :: h) ρ' ∧ tblsOk C.tbls S' = true ∧ ρ'[0]? = some (some (.fl (ns.map .int))) ∧ ρ.length = ρ'.length := by
    intro l
    induction l with
    | nil => exact fun _ ρ S tr ht hρ _ _ => ⟨ρ, S, rfl, tr, ht, hρ, rfl⟩
    | cons x l ih =>
      intro hx ρ S tr ht hρ hl hk2
      obtain ⟨f1, f2⟩ := dice_spec hd ns x (hx x List.mem_cons_self)
      obtain ⟨a, s, e2, h1, h3, h4, h5⟩ := f2 (n + 1) S
      have tb2 : tblsOk C.tbls (S ++ [Cell.lst [.int a, .int s, .int 0]]) = true := tbls_ext ht fun i hi => List.getElem?_append_left (Nat.lt_of_lt_of_le hi (tbls_len ht))
      have T : Drw C S.length 0 (S ++ [.lst [.int a, .int s, .int 0]]) := ⟨start_dice h1 h3 h4 h5, tb2, tbls_len ht⟩
      have a1 : Agr (k2 :: P.dv :: tgAs b) ρ (ρ.set k2 (some (.int x))) := (Agr.set k2 _).mono fun y hy => by rw [List.mem_singleton.mp hy]; exact List.mem_cons_self
      have a2 : Agr (k2 :: P.dv :: tgAs b) (ρ.set k2 (some (.int x))) ((ρ.set k2 (some (.int x))).set P.dv (some (.ref S.length))) := (Agr.set P.dv _).mono fun y hy => by rw [List.mem_singleton.mp hy]; exact List.mem_cons_of_mem _ List.mem_cons_self
      have s1 : evS C (evCall C (n + 2)) (.asg (.nm P.dv) (.call f (.cons (.var 0) (.cons (.var k2) .nil)))) (ρ.set k2 (some (.int x))) S = .ok (.nx ((ρ.set k2 (some (.int x))).set P.dv (some (.ref S.length)))) (S ++ [.lst [.int a, .int s, .int 0]]) := by
        have v0 : (ρ.set k2 (some (.int x)))[0]? = some (some (.fl (ns.map .int))) := by rw [List.getElem?_set_ne (Ne.symm nk)]; exact hρ
        have vk : (ρ.set k2 (some (.int x)))[k2]? = some (some (.int x)) := List.getElem?_set_self hk2
        simp only [s_asg, e_call, evEs, e_var, v0, vk, Res.bind_ok, settle_v, f1, opt_some, e2, settle_t, asT_nm, calm]
      obtain ⟨ρ1, S1, g1, g2, g3, g4⟩ := runSs_ok O hs b _ cs g0 S.length 0 _ _ z al (tr_wp2 (tr_wp2 tr a1) a2) ⟨tb2, fun _ => ⟨List.getElem?_set_self (by rw [List.length_set]; exact hl), T⟩⟩ (by omega)
      have a3 : Agr (k2 :: P.dv :: tgAs b) _ ρ1 := g4.mono fun y hy => List.mem_cons_of_mem _ (List.mem_cons_of_mem _ hy)
      have r0 : ρ1[0]? = some (some (.fl (ns.map .int))) := by rw [g4.at_ 0 nt, List.getElem?_set_ne (Ne.symm nd), List.getElem?_set_ne (Ne.symm nk)]; exact hρ
      have hlen : ρ.length = ρ1.length := by rw [← g4.len, List.length_set, List.length_set]
      obtain ⟨ρ2, S2, m1, m2, m3, m4, m5⟩ := ih (fun y hy => hx y (List.mem_cons_of_mem _ hy)) ρ1 S1 (tr_wp2 (tr_wp2 (tr_wp2 tr a1) a2) a3) g3.tb r0 (by rw [← hlen]; exact hl) (by rw [← hlen]; exact hk2)
      refine ⟨ρ2, S2, ?_, m2, m3, m4, hlen.trans m5⟩
      rw [List.map_cons, forL, asT_nm, calm_ok, Res.bind_ok, ss_nx s1, g1, Res.bind_ok]
      exact m1
  obtain ⟨ρ', S', g1, g2, g3, g4, g5⟩ := key (List.range q) (fun x hx => by have := List.mem_range.mp hx; omega) ρ S (tr_wp tr .refl) ht hρ hl hk0
  exact ⟨ρ', S', by rw [s_for (rng_of (eq ρ S hρ) (by omega))]; exact g1, g2, g3, g4, g5⟩
theorem runL_ok (O : DOk C P) (hs : SubOk C (evCall C (n + 2)) sub cf) (hd : C.fns[dice]? = some F_law_dice) {ns : List Int} : ∀ (b : Ss) (h : Hist) (cs : List Ct) (p : List Obl × List Obl) (ρ : Env) (S : Store), runL P dice ρ0 cf b h cs = some p → All C (evCall C (n + 2)) P ρ0 false sub p.1 → All C (evCall C (n + 2)) P ρ0 true sub p.2 → Tr C (evCall C (n + 2)) P ρ0 h ρ → tblsOk C.tbls S = true → ρ[0]? = some (some (.fl (ns.map .int))) → ρ0.length = ρ.length →
    ∃ S', evSs C (evCall C (n + 2)) b ρ S = .ok (.rt (.v (.bl true))) S'
  | .nil, h, cs, p, ρ, S, z, a1, a2, tr, ht, hρ, hl => by rw [runL] at z; cases z
  | .cons s r, h, cs, p, ρ, S, z, a1, a2, tr, ht, hρ, hl => by
    rw [runL] at z
    split at z
    · rename_i k c b e
      split at z
      case isFalse => cases z
      rename_i hb
      unfold spotB at hb
      simp only [Bool.and_eq_true] at hb
      obtain ⟨⟨⟨⟨⟨⟨⟨z1, z2⟩, z3⟩, z4⟩, z5⟩, z6⟩, z8⟩, z9⟩ := hb
      obtain ⟨g, y1, y2⟩ := Option.bind_eq_some_iff.mp z
      obtain ⟨os, y3, y4⟩ := Option.map_eq_some_iff.mp y2
      subst y4
      obtain ⟨ρ1, S1, k1, k2, k3, k4, k5⟩ := spot_ok O hs hd e ((Bool.not_eq_true' _).mp z3) ((Bool.not_eq_true' _).mp z4) ((Bool.not_eq_true' _).mp z5) ((Bool.not_eq_true' _).mp z6) y1 a2 (Nat.ble_eq.mp z8) tr ht hρ (by rw [← hl]; exact Nat.blt_eq.mp z2) (by rw [← hl]; exact Nat.blt_eq.mp z1)
      obtain ⟨ρ2, S2, m1, m2⟩ := runR_ok O hs r _ _ os 0 0 ρ1 S1 y3 a1 k2 (calmSt k3) (by have := Nat.ble_eq.mp z9; omega)
      exact ⟨S2, by rw [ss_nx k1, m1]⟩
    · obtain ⟨g, y1, y2⟩ := Option.bind_eq_some_iff.mp z
      split at y2
      case isFalse => cases y2
      rename_i hb
      rw [Bool.and_eq_true] at hb
      obtain ⟨p2, y3, y4⟩ := Option.map_eq_some_iff.mp y2
      subst y4
      have n0 : (0 : Nat) ∉ tgA s := fun w => by
        have := hb.1
        rw [List.contains_iff_mem.mpr w] at this
        cases this
      obtain ⟨ρ1, S1, k1, k2, k3, k4⟩ := runS_ok O hs s h cs g 0 0 ρ S y1 (All.l a1) tr (calmSt ht) (by have := Nat.ble_eq.mp hb.2; omega)
      obtain ⟨S2, m1⟩ := runL_ok O hs hd r g.1 g.2.1 p2 ρ1 S1 y3 (All.r a1) a2 k2 k3.tb (by rw [k4.at_ 0 n0]; exact hρ) (hl.trans k4.len)
      exact ⟨S2, by rw [ss_nx k1, m1]⟩
/-- a law whose draws are finite, by its obligations -/
theorem law_by {pick roll dv lw : Nat} {F : Fn} {cs : List Ct} {p : List Obl × List Obl} (O : DOk C ⟨pick, roll, dv⟩) (hs : SubOk C (evCall C (n + 2)) sub cf) (hd : C.fns[dice]? = some F_law_dice) (hF : C.fns[lw]? = some F) (h1 : F.np = 1) (ht : tblsOk C.tbls C.tbls = true)
    (z : runL ⟨pick, roll, dv⟩ dice (none :: List.replicate (F.ns - 1) none) cf F.body [] cs = some p) (a1 : All C (evCall C (n + 2)) ⟨pick, roll, dv⟩ (none :: List.replicate (F.ns - 1) none) false sub p.1) (a2 : All C (evCall C (n + 2)) ⟨pick, roll, dv⟩ (none :: List.replicate (F.ns - 1) none) true sub p.2) (ns : List Int) : ∃ S, evCall C (n + 3) lw [.fl (ns.map .int)] C.tbls = .ok (.v (.bl true)) S := by
  have hst : start F [.fl (ns.map .int)] = some (.fl (ns.map .int)) :: List.replicate (F.ns - 1) none := rfl
  obtain ⟨S', e⟩ := runL_ok O hs hd (ns := ns) F.body [] cs p (start F [.fl (ns.map .int)]) C.tbls z a1 a2 (by rw [hst]; exact le_head) ht (by rw [hst]; rfl) (by rw [hst, List.length_cons, List.length_cons])
  rw [ev_call (ds := [.fl (ns.map .int)]) hF (show 1 = F.np from h1.symm), e]
  obtain ⟨S2, e2, _⟩ := fin_val (n := C.tbls.length) (d := .bl true) (S := S') (fun _ w => nomatch w)
  exact ⟨S2, e2⟩
/-- obligations one by one -/
theorem all_of {call : Nat → List D → Store → Res R} {lv : Bool} {os : List Obl} {n : Nat} (hn : os.length = n) (h : ∀ i, i < n → ∀ u, (os.getD i .no).ok C call P ρ0 lv sub u = true) : All C call P ρ0 lv sub os := fun o ho u => by
  obtain ⟨i, hi, e⟩ := List.getElem_of_mem ho
  have := h i (by omega) u
  rw [List.getD_eq_getElem?_getD, List.getElem?_eq_getElem hi] at this
  rw [← e]
  exact this
theorem lt_zero {p : Nat → Prop} : ∀ i, i < 0 → p i := fun i h => absurd h (Nat.not_lt_zero i)
theorem lt_case {N : Nat} {p : Nat → Prop} (h : ∀ i, i < N → p i) (hN : p N) : ∀ i, i < N + 1 → p i := fun i hi => (Nat.lt_succ_iff_lt_or_eq.mp hi).elim (h i) fun e => e ▸ hN
end
end Q
end
section
-- X38T
set_option Elab.async false
set_option linter.all false
set_option maxRecDepth 100000
namespace X38
open PySem Q
/-- is_integer -/
def b0 : Ss := (.cons (.ret (.bop .And (.cons (.isi (.var 0) .int) (.cons (.not (.isi (.var 0) .bool)) .nil)))) .nil)
def f0 : FD := ⟨"is_integer", "is_integer", ⟨1, 1, [], b0⟩, ["value"], [], 0, 9999⟩
/-- common_divisor -/
def b1 : Ss := (.cons (.par2 0 1 (.bi1 .abs (.var 0)) (.bi1 .abs (.var 1))) (.cons (.whl (.cmp .Gt (.var 1) (.int 0)) (.cons (.par2 0 1 (.var 1) (.bin .Mod (.var 0) (.var 1))) .nil)) (.cons (.ret (.var 0)) .nil)))
def f1 : FD := ⟨"common_divisor", "common_divisor", ⟨2, 2, [], b1⟩, ["one", "other"], [], 0, 9999⟩
/-- is_number -/
def b2 : Ss := (.cons (.ife (.bop .Or (.cons (.not (.isi (.var 0) .tuple)) (.cons (.cmp .NotEq (.bi1 .len (.var 0)) (.int 2)) (.cons (.not (.bi1 .all (.lc (.call 0 (.cons (.var 1) .nil)) (.nm 1) (.seq (.var 0)) .no 0))) .nil)))) (.cons (.ret (.bl false)) .nil) .nil) (.cons (.ret (.bop .And (.cons (.cmp .GtE (.idx (.var 0) (.int 1)) (.int 1)) (.cons (.cmp .Eq (.call 1 (.cons (.idx (.var 0) (.int 0)) (.cons (.idx (.var 0) (.int 1)) .nil))) (.int 1)) .nil)))) .nil))
def f2 : FD := ⟨"is_number", "is_number", ⟨1, 2, [], b2⟩, ["value", "one"], [], 0, 9999⟩
/-- reduced -/
def b3 : Ss := (.cons (.ife (.cmp .Lt (.var 1) (.int 0)) (.cons (.par2 0 1 (.bin .Sub (.int 0) (.var 0)) (.bin .Sub (.int 0) (.var 1))) .nil) .nil) (.cons (.asg (.nm 2) (.call 1 (.cons (.var 0) (.cons (.var 1) .nil)))) (.cons (.ret (.tup (.cons (.bin .FloorDiv (.var 0) (.var 2)) (.cons (.bin .FloorDiv (.var 1) (.var 2)) .nil)))) .nil)))
def f3 : FD := ⟨"reduced", "reduced", ⟨2, 3, [], b3⟩, ["top", "bottom", "divisor"], [], 0, 9999⟩
/-- require_number -/
def b4 : Ss := (.cons (.ife (.not (.call 2 (.cons (.var 0) .nil))) (.cons (.raise 3 (.str "a number is expected")) .nil) .nil) .nil)
def f4 : FD := ⟨"require_number", "require_number", ⟨1, 1, [], b4⟩, ["value"], [], 0, 9999⟩
/-- require_count -/
def b5 : Ss := (.cons (.ife (.bop .Or (.cons (.not (.call 0 (.cons (.var 0) .nil))) (.cons (.not (.chn .LtE .LtE (.var 1) (.var 0) (.var 2))) .nil))) (.cons (.raise 5 (.var 0)) .nil) .nil) .nil)
def f5 : FD := ⟨"require_count", "require_count", ⟨3, 3, [.int 0, .int 60], b5⟩, ["value", "least", "most"], [], 0, 9999⟩
/-- added -/
def b6 : Ss := (.cons (.ife (.chn .Eq .Eq (.idx (.var 0) (.int 1)) (.idx (.var 1) (.int 1)) (.int 1)) (.cons (.ret (.tup (.cons (.bin .Add (.idx (.var 0) (.int 0)) (.idx (.var 1) (.int 0))) (.cons (.int 1) .nil)))) .nil) .nil) (.cons (.ret (.call 3 (.cons (.bin .Add (.bin .Mult (.idx (.var 0) (.int 0)) (.idx (.var 1) (.int 1))) (.bin .Mult (.idx (.var 1) (.int 0)) (.idx (.var 0) (.int 1)))) (.cons (.bin .Mult (.idx (.var 0) (.int 1)) (.idx (.var 1) (.int 1))) .nil)))) .nil))
def f6 : FD := ⟨"added", "added", ⟨2, 2, [], b6⟩, ["one", "other"], [], 0, 9999⟩
/-- multiplied -/
def b7 : Ss := (.cons (.ife (.chn .Eq .Eq (.idx (.var 0) (.int 1)) (.idx (.var 1) (.int 1)) (.int 1)) (.cons (.ret (.tup (.cons (.bin .Mult (.idx (.var 0) (.int 0)) (.idx (.var 1) (.int 0))) (.cons (.int 1) .nil)))) .nil) .nil) (.cons (.ret (.call 3 (.cons (.bin .Mult (.idx (.var 0) (.int 0)) (.idx (.var 1) (.int 0))) (.cons (.bin .Mult (.idx (.var 0) (.int 1)) (.idx (.var 1) (.int 1))) .nil)))) .nil))
def f7 : FD := ⟨"multiplied", "multiplied", ⟨2, 2, [], b7⟩, ["one", "other"], [], 0, 9999⟩
/-- opposite -/
def b8 : Ss := (.cons (.ret (.tup (.cons (.bin .Sub (.int 0) (.idx (.var 0) (.int 0))) (.cons (.idx (.var 0) (.int 1)) .nil)))) .nil)
def f8 : FD := ⟨"opposite", "opposite", ⟨1, 1, [], b8⟩, ["one"], [], 0, 9999⟩
/-- sum_of -/
def b9 : Ss := (.cons (.asg (.nm 1) (.glb 0)) (.cons (.for (.nm 2) (.seq (.var 0)) (.cons (.asg (.nm 1) (.call 6 (.cons (.var 1) (.cons (.var 2) .nil)))) .nil)) (.cons (.ret (.var 1)) .nil)))
def f9 : FD := ⟨"sum_of", "sum_of", ⟨1, 3, [], b9⟩, ["numbers", "found", "one"], [], 0, 9999⟩
/-- is_plain_row -/
def b10 : Ss := (.cons (.ret (.bop .And (.cons (.isi (.var 1) .tuple) (.cons (.cmp .Eq (.bi1 .len (.var 1)) (.var 0)) (.cons (.bi1 .all (.lc (.call 2 (.cons (.var 2) .nil)) (.nm 2) (.seq (.var 1)) .no 0)) .nil))))) .nil)
def f10 : FD := ⟨"is_plain_row", "is_plain_row", ⟨2, 3, [], b10⟩, ["width", "value", "one"], [], 0, 9999⟩
/-- rest_row -/
def b11 : Ss := (.cons (.ret (.bin .Mult (.tup (.cons (.glb 0) .nil)) (.var 0))) .nil)
def f11 : FD := ⟨"rest_row", "rest_row", ⟨1, 1, [], b11⟩, ["width"], [], 0, 9999⟩
/-- sum_of_rows -/
def b12 : Ss := (.cons (.ret (.bi1 .tuple (.lc (.call 6 (.cons (.var 2) (.cons (.var 3) .nil))) (.tp (.cons (.nm 2) (.cons (.nm 3) .nil))) (.zip (.var 0) (.var 1)) .no 0))) .nil)
def f12 : FD := ⟨"sum_of_rows", "sum_of_rows", ⟨2, 4, [], b12⟩, ["one", "other", "left", "right"], [], 0, 9999⟩
/-- times_row -/
def b13 : Ss := (.cons (.ret (.bi1 .tuple (.lc (.ife (.cmp .NotEq (.var 2) (.glb 0)) (.call 7 (.cons (.var 0) (.cons (.var 2) .nil))) (.glb 0)) (.nm 2) (.seq (.var 1)) .no 0))) .nil)
def f13 : FD := ⟨"times_row", "times_row", ⟨2, 3, [], b13⟩, ["number", "row", "one"], [], 0, 9999⟩
/-- less_times -/
def b14 : Ss := (.cons (.ret (.call 12 (.cons (.var 0) (.cons (.call 13 (.cons (.call 8 (.cons (.var 1) .nil)) (.cons (.var 2) .nil))) .nil)))) .nil)
def f14 : FD := ⟨"less_times", "less_times", ⟨3, 3, [], b14⟩, ["row", "number", "other"], [], 0, 9999⟩
/-- difference_of -/
def b15 : Ss := (.cons (.ret (.call 14 (.cons (.var 0) (.cons (.glb 1) (.cons (.var 1) .nil))))) .nil)
def f15 : FD := ⟨"difference_of", "difference_of", ⟨2, 2, [], b15⟩, ["one", "other"], [], 0, 9999⟩
/-- product_of -/
def b16 : Ss := (.cons (.asg (.nm 2) (.glb 0)) (.cons (.for (.tp (.cons (.nm 3) (.cons (.nm 4) .nil))) (.zip (.var 0) (.var 1)) (.cons (.ife (.bop .And (.cons (.cmp .NotEq (.var 3) (.glb 0)) (.cons (.cmp .NotEq (.var 4) (.glb 0)) .nil))) (.cons (.asg (.nm 2) (.call 6 (.cons (.var 2) (.cons (.call 7 (.cons (.var 3) (.cons (.var 4) .nil))) .nil)))) .nil) .nil) .nil)) (.cons (.ret (.var 2)) .nil)))
def f16 : FD := ⟨"product_of", "product_of", ⟨2, 5, [], b16⟩, ["one", "other", "found", "left", "right"], [], 0, 9999⟩
/-- led_told -/
def b17 : Ss := (.cons (.asg (.nm 3) (.call 11 (.cons (.var 0) .nil))) (.cons (.for (.tp (.cons (.nm 4) (.cons (.nm 5) .nil))) (.zip (.var 2) (.var 1)) (.cons (.ife (.cmp .NotEq (.var 4) (.glb 0)) (.cons (.asg (.nm 3) (.call 12 (.cons (.var 3) (.cons (.call 13 (.cons (.var 4) (.cons (.var 5) .nil))) .nil)))) .nil) .nil) .nil)) (.cons (.ret (.var 3)) .nil)))
def f17 : FD := ⟨"led_told", "led_told", ⟨3, 6, [], b17⟩, ["width", "table", "told", "found", "number", "line"], [], 0, 9999⟩
/-- are_from_nought -/
def b18 : Ss := (.cons (.ret (.bi1 .all (.lc (.cmp .GtE (.idx (.var 1) (.int 0)) (.int 0)) (.nm 1) (.seq (.var 0)) .no 0))) .nil)
def f18 : FD := ⟨"are_from_nought", "are_from_nought", ⟨1, 2, [], b18⟩, ["row", "number"], [], 0, 9999⟩
/-- does_reach -/
def b19 : Ss := (.cons (.ret (.call 18 (.cons (.call 15 (.cons (.var 0) (.cons (.var 1) .nil))) .nil))) .nil)
def f19 : FD := ⟨"does_reach", "does_reach", ⟨2, 2, [], b19⟩, ["one", "other"], [], 0, 9999⟩
/-- is_plain_mix -/
def b20 : Ss := (.cons (.ret (.bop .And (.cons (.call 10 (.cons (.var 0) (.cons (.var 1) .nil))) (.cons (.call 18 (.cons (.var 1) .nil)) .nil)))) .nil)
def f20 : FD := ⟨"is_plain_mix", "is_plain_mix", ⟨2, 2, [], b20⟩, ["width", "value"], [], 0, 9999⟩
/-- require_width -/
def b21 : Ss := (.cons (.expr (.call 5 (.cons (.var 0) (.cons (.int 1) (.cons (.glb 2) .nil))))) .nil)
def f21 : FD := ⟨"require_width", "require_width", ⟨1, 1, [], b21⟩, ["width"], [], 0, 9999⟩
/-- is_plain_chances -/
def b22 : Ss := (.cons (.ret (.bop .And (.cons (.call 20 (.cons (.var 0) (.cons (.var 1) .nil))) (.cons (.cmp .Eq (.call 9 (.cons (.var 1) .nil)) (.glb 1)) .nil)))) .nil)
def f22 : FD := ⟨"is_plain_chances", "is_plain_chances", ⟨2, 2, [], b22⟩, ["width", "value"], [], 0, 9999⟩
/-- require_chances -/
def b23 : Ss := (.cons (.ife (.not (.call 22 (.cons (.var 0) (.cons (.var 1) .nil)))) (.cons (.raise 0 (.str "chances of the width are expected")) .nil) .nil) .nil)
def f23 : FD := ⟨"require_chances", "require_chances", ⟨2, 2, [], b23⟩, ["width", "value"], [], 0, 9999⟩
/-- require_line -/
def b24 : Ss := (.cons (.ife (.not (.call 10 (.cons (.var 0) (.cons (.var 1) .nil)))) (.cons (.raise 2 (.str "a line of the width is expected")) .nil) .nil) .nil)
def f24 : FD := ⟨"require_line", "require_line", ⟨2, 2, [], b24⟩, ["width", "value"], [], 0, 9999⟩
/-- is_less -/
def b25 : Ss := (.cons (.ret (.cmp .Lt (.idx (.call 6 (.cons (.var 0) (.cons (.call 8 (.cons (.var 1) .nil)) .nil))) (.int 0)) (.int 0))) .nil)
def f25 : FD := ⟨"is_less", "is_less", ⟨2, 2, [], b25⟩, ["one", "other"], [], 0, 9999⟩
/-- is_plain_lines -/
def b26 : Ss := (.cons (.ife (.bop .Or (.cons (.not (.isi (.var 1) .tuple)) (.cons (.not (.chn .LtE .LtE (.int 1) (.bi1 .len (.var 1)) (.glb 3))) .nil))) (.cons (.ret (.bl false)) .nil) .nil) (.cons (.ife (.not (.bi1 .all (.lc (.call 10 (.cons (.var 0) (.cons (.var 2) .nil))) (.nm 2) (.seq (.var 1)) .no 0))) (.cons (.ret (.bl false)) .nil) .nil) (.cons (.ret (.bi1 .all (.lc (.cmp .Lt (.var 3) (.var 4)) (.tp (.cons (.nm 3) (.cons (.nm 4) .nil))) (.zip (.var 1) (.slc (.var 1) (.so (.int 1)) .no)) .no 1))) .nil)))
def f26 : FD := ⟨"is_plain_lines", "is_plain_lines", ⟨2, 5, [], b26⟩, ["width", "value", "line", "one", "other"], [], 0, 9999⟩
/-- require_lines -/
def b27 : Ss := (.cons (.ife (.not (.call 26 (.cons (.var 0) (.cons (.var 1) .nil)))) (.cons (.raise 1 (.str "lines of the width are expected")) .nil) .nil) .nil)
def f27 : FD := ⟨"require_lines", "require_lines", ⟨2, 2, [], b27⟩, ["width", "value"], [], 0, 9999⟩
/-- require_lined -/
def b28 : Ss := (.cons (.expr (.call 21 (.cons (.var 0) .nil))) (.cons (.expr (.call 27 (.cons (.var 0) (.cons (.var 1) .nil)))) .nil))
def f28 : FD := ⟨"require_lined", "require_lined", ⟨2, 2, [], b28⟩, ["width", "lines"], [], 0, 9999⟩
/-- top_mean -/
def b29 : Ss := (.cons (.asg (.nm 2) .non) (.cons (.for (.nm 3) (.seq (.var 0)) (.cons (.asg (.nm 4) (.call 16 (.cons (.var 3) (.cons (.var 1) .nil)))) (.cons (.asg (.nm 2) (.ife (.bop .Or (.cons (.cmp .Is (.var 2) .non) (.cons (.call 25 (.cons (.var 2) (.cons (.var 4) .nil))) .nil))) (.var 4) (.var 2))) .nil))) (.cons (.ret (.var 2)) .nil)))
def f29 : FD := ⟨"top_mean", "top_mean", ⟨2, 5, [], b29⟩, ["lines", "row", "found", "line", "one"], [], 0, 9999⟩
/-- best_by -/
def b30 : Ss := (.cons (.asg (.nm 2) (.call 29 (.cons (.var 0) (.cons (.var 1) .nil)))) (.cons (.ret (.lc (.var 3) (.tp (.cons (.nm 3) (.cons (.nm 4) .nil))) (.enum (.var 0)) (.so (.cmp .Eq (.call 16 (.cons (.var 4) (.cons (.var 1) .nil))) (.var 2))) 0)) .nil))
def f30 : FD := ⟨"best_by", "best_by", ⟨2, 5, [], b30⟩, ["lines", "chances", "most", "index", "line"], [], 0, 9999⟩
/-- is_above_by -/
def b31 : Ss := (.cons (.ret (.call 19 (.cons (.var 0) (.cons (.var 1) .nil)))) .nil)
def f31 : FD := ⟨"is_above_by", "is_above_by", ⟨2, 2, [], b31⟩, ["one", "other"], [], 0, 9999⟩
/-- mixed_by -/
def b32 : Ss := (.cons (.ret (.call 17 (.cons (.bi1 .len (.idx (.var 0) (.int 0))) (.cons (.var 0) (.cons (.var 1) .nil))))) .nil)
def f32 : FD := ⟨"mixed_by", "mixed_by", ⟨2, 2, [], b32⟩, ["lines", "weights"], [], 0, 9999⟩
/-- ones_of -/
def b33 : Ss := (.cons (.ret (.tidy (.var 0) 1 0)) .nil)
def f33 : FD := ⟨"ones_of", "ones_of", ⟨1, 2, [], b33⟩, ["some", "line"], [], 0, 9999⟩
/-- top_by -/
def b34 : Ss := (.cons (.ret (.bi1 .tuple (.lc (.var 1) (.nm 1) (.seq (.var 0)) (.so (.not (.bi1 .any (.lc (.bop .And (.cons (.cmp .NotEq (.var 2) (.var 1)) (.cons (.call 31 (.cons (.var 2) (.cons (.var 1) .nil))) .nil))) (.nm 2) (.seq (.var 0)) .no 1)))) 0))) .nil)
def f34 : FD := ⟨"top_by", "top_by", ⟨1, 3, [], b34⟩, ["some", "one", "other"], [], 0, 9999⟩
/-- is_lines -/
def b35 : Ss := (.cons (.expr (.call 21 (.cons (.var 0) .nil))) (.cons (.ret (.call 26 (.cons (.var 0) (.cons (.var 1) .nil)))) .nil))
def f35 : FD := ⟨"is_lines", "is_lines", ⟨2, 2, [], b35⟩, ["width", "value"], [], 0, 9999⟩
/-- greatest -/
def b36 : Ss := (.cons (.expr (.call 28 (.cons (.var 0) (.cons (.var 1) .nil)))) (.cons (.expr (.call 23 (.cons (.var 0) (.cons (.var 2) .nil)))) (.cons (.ret (.call 29 (.cons (.var 1) (.cons (.var 2) .nil)))) .nil)))
def f36 : FD := ⟨"greatest", "greatest", ⟨3, 3, [], b36⟩, ["width", "lines", "chances"], [], 0, 9999⟩
/-- best_lines -/
def b37 : Ss := (.cons (.expr (.call 28 (.cons (.var 0) (.cons (.var 1) .nil)))) (.cons (.expr (.call 23 (.cons (.var 0) (.cons (.var 2) .nil)))) (.cons (.ret (.bi1 .tuple (.call 30 (.cons (.var 1) (.cons (.var 2) .nil))))) .nil)))
def f37 : FD := ⟨"best_lines", "best_lines", ⟨3, 3, [], b37⟩, ["width", "lines", "chances"], [], 0, 9999⟩
/-- is_above -/
def b38 : Ss := (.cons (.expr (.call 21 (.cons (.var 0) .nil))) (.cons (.expr (.call 24 (.cons (.var 0) (.cons (.var 1) .nil)))) (.cons (.expr (.call 24 (.cons (.var 0) (.cons (.var 2) .nil)))) (.cons (.ret (.call 31 (.cons (.var 1) (.cons (.var 2) .nil)))) .nil))))
def f38 : FD := ⟨"is_above", "is_above", ⟨3, 3, [], b38⟩, ["width", "line", "other"], [], 0, 9999⟩
/-- top_lines -/
def b39 : Ss := (.cons (.expr (.call 28 (.cons (.var 0) (.cons (.var 1) .nil)))) (.cons (.ret (.call 34 (.cons (.var 1) .nil))) .nil))
def f39 : FD := ⟨"top_lines", "top_lines", ⟨2, 2, [], b39⟩, ["width", "lines"], [], 0, 9999⟩
/-- lifted_by -/
def b40 : Ss := (.cons (.ret (.bi1 .tuple (.lc (.call 6 (.cons (.var 2) (.cons (.var 1) .nil))) (.nm 2) (.seq (.var 0)) .no 0))) .nil)
def f40 : FD := ⟨"lifted_by", "lifted_by", ⟨2, 3, [], b40⟩, ["line", "number", "one"], [], 0, 9999⟩
/-- lifted -/
def b41 : Ss := (.cons (.expr (.call 28 (.cons (.var 0) (.cons (.var 1) .nil)))) (.cons (.expr (.call 4 (.cons (.var 2) .nil))) (.cons (.ret (.call 33 (.cons (.lc (.call 40 (.cons (.var 3) (.cons (.var 2) .nil))) (.nm 3) (.seq (.var 1)) .no 0) .nil))) .nil)))
def f41 : FD := ⟨"lifted", "lifted", ⟨3, 4, [], b41⟩, ["width", "lines", "number", "line"], [], 0, 9999⟩
/-- scaled -/
def b42 : Ss := (.cons (.expr (.call 28 (.cons (.var 0) (.cons (.var 1) .nil)))) (.cons (.expr (.call 4 (.cons (.var 2) .nil))) (.cons (.ife (.cmp .LtE (.idx (.var 2) (.int 0)) (.int 0)) (.cons (.raise 7 (.tup (.cons (.glb 4) .nil))) .nil) .nil) (.cons (.ret (.call 33 (.cons (.lc (.call 13 (.cons (.var 2) (.cons (.var 3) .nil))) (.nm 3) (.seq (.var 1)) .no 0) .nil))) .nil))))
def f42 : FD := ⟨"scaled", "scaled", ⟨3, 4, [], b42⟩, ["width", "lines", "number", "line"], [], 0, 9999⟩
/-- least_of_row -/
def b43 : Ss := (.cons (.asg (.nm 1) (.idx (.var 0) (.int 0))) (.cons (.for (.nm 2) (.seq (.slc (.var 0) (.so (.int 1)) .no)) (.cons (.asg (.nm 1) (.ife (.call 25 (.cons (.var 2) (.cons (.var 1) .nil))) (.var 2) (.var 1))) .nil)) (.cons (.ret (.var 1)) .nil)))
def f43 : FD := ⟨"least_of_row", "least_of_row", ⟨1, 3, [], b43⟩, ["line", "found", "one"], [], 0, 9999⟩
/-- greatest_of_row -/
def b44 : Ss := (.cons (.asg (.nm 1) (.idx (.var 0) (.int 0))) (.cons (.for (.nm 2) (.seq (.slc (.var 0) (.so (.int 1)) .no)) (.cons (.asg (.nm 1) (.ife (.call 25 (.cons (.var 1) (.cons (.var 2) .nil))) (.var 2) (.var 1))) .nil)) (.cons (.ret (.var 1)) .nil)))
def f44 : FD := ⟨"greatest_of_row", "greatest_of_row", ⟨1, 3, [], b44⟩, ["line", "found", "one"], [], 0, 9999⟩
/-- least_number -/
def b45 : Ss := (.cons (.expr (.call 21 (.cons (.var 0) .nil))) (.cons (.expr (.call 24 (.cons (.var 0) (.cons (.var 1) .nil)))) (.cons (.ret (.call 43 (.cons (.var 1) .nil))) .nil)))
def f45 : FD := ⟨"least_number", "least_number", ⟨2, 2, [], b45⟩, ["width", "line"], [], 0, 9999⟩
/-- greatest_number -/
def b46 : Ss := (.cons (.expr (.call 21 (.cons (.var 0) .nil))) (.cons (.expr (.call 24 (.cons (.var 0) (.cons (.var 1) .nil)))) (.cons (.ret (.call 44 (.cons (.var 1) .nil))) .nil)))
def f46 : FD := ⟨"greatest_number", "greatest_number", ⟨2, 2, [], b46⟩, ["width", "line"], [], 0, 9999⟩
/-- mixed -/
def b47 : Ss := (.cons (.expr (.call 28 (.cons (.var 0) (.cons (.var 1) .nil)))) (.cons (.ife (.not (.call 20 (.cons (.bi1 .len (.var 1)) (.cons (.var 2) .nil)))) (.cons (.raise 2 (.str "weights of the lines are expected")) .nil) .nil) (.cons (.ret (.call 32 (.cons (.var 1) (.cons (.var 2) .nil)))) .nil)))
def f47 : FD := ⟨"mixed", "mixed", ⟨3, 3, [], b47⟩, ["width", "lines", "weights"], [], 0, 9999⟩
/-- one_lines -/
def b48 : Ss := (.cons (.expr (.call 21 (.cons (.var 0) .nil))) (.cons (.ife (.bop .Or (.cons (.not (.isi (.var 1) .tuple)) (.cons (.cmp .Eq (.var 1) (.tup .nil)) (.cons (.not (.bi1 .all (.lc (.call 10 (.cons (.var 0) (.cons (.var 3) .nil))) (.nm 3) (.seq (.var 1)) .no 0))) .nil)))) (.cons (.raise 4 (.str "a tuple of at least one line is expected")) .nil) .nil) (.cons (.asg (.nm 2) (.call 33 (.cons (.var 1) .nil))) (.cons (.ife (.cmp .Gt (.bi1 .len (.var 2)) (.glb 3)) (.cons (.raise 6 (.glb 3)) .nil) .nil) (.cons (.ret (.var 2)) .nil)))))
def f48 : FD := ⟨"one_lines", "one_lines", ⟨2, 4, [], b48⟩, ["width", "some", "found", "line"], [], 0, 9999⟩
/-- _law_dice -/
def b49 : Ss := (.cons (.asg (.nm 2) (.ife (.cmp .Lt (.var 1) (.bi1 .len (.var 0))) (.bi1 .int (.idx (.var 0) (.var 1))) (.bin .Add (.bin .Mult (.int 173) (.var 1)) (.int 59)))) (.cons (.asg (.nm 3) (.bin .Mod (.bi1 .abs (.var 2)) (.bin .Pow (.bin .Pow (.int 10) (.int 47)) (.int 7)))) (.cons (.asg (.nm 4) (.bin .Add (.bin .Add (.bin .Add (.bin .Mult (.bin .Mod (.var 3) (.int 2305843009213693669)) (.int 89)) (.bin .Mult (.int 733) (.var 1))) (.bin .Mult (.int 43) (.bi1 .int (.cmp .Lt (.var 2) (.int 0))))) (.int 29))) (.cons (.ret (.lst (.cons (.bi2 .max (.int 0) (.bin .Sub (.var 3) (.bin .Pow (.int 10) (.int 15)))) (.cons (.var 4) (.cons (.int 0) .nil))))) .nil))))
def f49 : FD := ⟨"_law_dice", "_law_dice", ⟨2, 5, [], b49⟩, ["script", "spot", "cell", "great", "seed"], [], 0, 9999⟩
/-- _law_roll -/
def b50 : Ss := (.cons (.ife (.cmp .Gt (.idx (.var 0) (.int 0)) (.int 0)) (.cons (.asg (.tp (.cons (.sb (.var 0) (.int 0)) (.cons (.nm 4) .nil))) (.bi2 .divmod (.idx (.var 0) (.int 0)) (.var 1))) (.cons (.ret (.bi1 .int (.var 4))) .nil)) .nil) (.cons (.asg (.sb (.var 0) (.int 2)) (.bin .Add (.idx (.var 0) (.int 2)) (.int 1))) (.cons (.asg (.nm 2) (.bin .Mod (.bin .Add (.idx (.var 0) (.int 1)) (.bin .Mult (.int 67867967) (.idx (.var 0) (.int 2)))) (.int 2305843009213693613))) (.cons (.asg (.nm 3) (.bin .Add (.bin .Mult (.bin .Mod (.bin .Add (.bin .Mult (.var 2) (.var 2)) (.bin .Mult (.int 211) (.idx (.var 0) (.int 2)))) (.int 2305843009213693487)) (.int 49979693)) (.var 2))) (.cons (.ret (.bin .Mod (.bi1 .int (.bin .FloorDiv (.var 3) (.int 70001))) (.var 1))) .nil)))))
def f50 : FD := ⟨"_law_roll", "_law_roll", ⟨2, 5, [], b50⟩, ["dice", "total", "one", "two", "found"], [], 0, 9999⟩
/-- _law_pick -/
def b51 : Ss := (.cons (.ret (.idx (.var 1) (.call 50 (.cons (.var 0) (.cons (.bi1 .len (.var 1)) .nil))))) .nil)
def f51 : FD := ⟨"_law_pick", "_law_pick", ⟨2, 2, [], b51⟩, ["dice", "things"], [], 0, 9999⟩
/-- _law_widths_right -/
def b52 : Ss := (.cons (.clos 2 [0, 1, 2, 3, 4, 5, 6, 7, 8, 9, 10]) (.cons (.ret (.cmp .Eq (.words 0 2 3 0) (.bin .Mult (.lst (.cons (.bin .Add (.str "count ") (.bi1 .repr (.var 0))) .nil)) (.int 11)))) .nil))
def f52 : FD := ⟨"_law_widths_right", "_law_widths_right", ⟨2, 4, [], b52⟩, ["odd", "bad", "calls", "call"], [2, 3], 0, 0⟩
/-- _law_right -/
def b53 : Ss := (.cons (.asg (.tp (.cons (.nm 12) (.cons (.nm 13) (.cons (.nm 14) .nil)))) (.tup (.cons (.tup (.cons (.int 1) (.cons (.int 1) .nil))) (.cons (.tup (.cons (.int 0) (.cons (.int 1) .nil))) (.cons (.tup (.cons (.int 1) (.cons (.int 2) .nil))) .nil))))) (.cons (.asg (.tp (.cons (.nm 15) (.cons (.nm 16) (.cons (.nm 17) .nil)))) (.tup (.cons (.tup (.cons (.var 13) (.cons (.var 12) .nil))) (.cons (.tup (.cons (.var 12) (.cons (.var 13) .nil))) (.cons (.tup (.cons (.var 14) (.cons (.var 14) .nil))) .nil))))) (.cons (.asg (.nm 1) (.tup (.cons (.var 15) (.cons (.var 16) .nil)))) (.cons (.asg (.nm 2) (.call 51 (.cons (.var 0) (.cons (.flst (.cons .non (.cons (.int 0) (.cons (.neg (.int 1)) (.cons (.int 9) (.cons (.bl true) (.cons (.str "2") (.cons (.tup (.cons (.int 2) .nil)) (.cons (.fbin .Pow (.int 10) (.int 20)) .nil))))))))) .nil)))) (.cons (.asg (.nm 3) (.flst (.cons .non (.cons (.tup .nil) (.cons (.flst (.cons (.var 15) (.cons (.var 16) .nil))) (.cons (.tup (.cons (.var 16) (.cons (.var 15) .nil))) (.cons (.tup (.cons (.var 15) (.cons (.var 15) .nil))) (.cons (.tup (.cons (.var 15) (.cons (.tup (.cons (.var 12) .nil)) .nil))) (.cons (.tup (.cons (.var 15) (.cons (.tup (.cons (.var 12) (.cons (.tup (.cons (.int 2) (.cons (.int 2) .nil))) .nil))) .nil))) (.cons (.var 15) (.cons (.str "lines") (.cons (.int 5) (.cons .fdct .nil))))))))))))) (.cons (.asg (.nm 3) (.call 51 (.cons (.var 0) (.cons (.fbin .Add (.var 3) (.flst (.cons (.tup (.cons (.var 15) (.cons (.flst (.cons (.var 12) (.cons (.var 13) .nil))) .nil))) (.cons (.tup (.cons (.var 15) (.cons (.tup (.cons (.var 12) (.cons (.int 1) .nil))) .nil))) (.cons (.bi1 .tuple (.lc (.tup (.cons (.tup (.cons (.var 19) (.cons (.int 1) .nil))) (.cons (.var 13) .nil))) (.nm 19) (.rng1 (.int 41)) .no 0)) .nil))))) .nil)))) (.cons (.asg (.nm 4) (.call 51 (.cons (.var 0) (.cons (.flst (.cons .non (.cons (.tup .nil) (.cons (.tup (.cons (.var 12) .nil)) (.cons (.flst (.cons (.var 12) (.cons (.var 12) .nil))) (.cons (.tup (.cons (.var 12) (.cons (.int 1) .nil))) (.cons (.tup (.cons (.var 12) (.cons (.tup (.cons (.int 2) (.cons (.int 2) .nil))) .nil))) (.cons (.tup (.cons (.var 12) (.cons (.var 12) (.cons (.var 12) .nil)))) (.cons (.str "row") (.cons (.int 3) .nil)))))))))) .nil)))) (.cons (.asg (.nm 5) (.call 51 (.cons (.var 0) (.cons (.flst (.cons (.var 4) (.cons (.tup (.cons (.var 14) (.cons (.var 12) .nil))) (.cons (.tup (.cons (.tup (.cons (.int 3) (.cons (.int 2) .nil))) (.cons (.tup (.cons (.neg (.int 1)) (.cons (.int 2) .nil))) .nil))) (.cons (.tup (.cons (.var 13) (.cons (.var 13) .nil))) .nil))))) .nil)))) (.cons (.asg (.nm 6) (.call 51 (.cons (.var 0) (.cons (.flst (.cons .non (.cons (.int 1) (.cons (.tup (.cons (.int 2) (.cons (.int 2) .nil))) (.cons (.tup (.cons (.int 1) (.cons (.int 0) .nil))) (.cons (.str "1") (.cons (.flst (.cons (.int 1) (.cons (.int 2) .nil))) (.cons (.tup (.cons (.int 1) .nil)) (.cons (.tup (.cons (.bl true) (.cons (.int 1) .nil))) (.cons (.tup (.cons (.int 1) (.cons (.neg (.int 1)) .nil))) .nil)))))))))) .nil)))) (.cons (.asg (.nm 7) (.call 51 (.cons (.var 0) (.cons (.flst (.cons (.var 4) (.cons (.tup (.cons (.var 12) (.cons (.tup (.cons (.neg (.int 1)) (.cons (.int 2) .nil))) .nil))) (.cons (.tup (.cons (.tup (.cons (.neg (.int 1)) (.cons (.int 9) .nil))) (.cons (.var 13) .nil))) .nil)))) .nil)))) (.cons (.ife (.not (.fcall 52 (.cons (.var 2) (.cons (.var 3) .nil)))) (.cons (.ret (.bl false)) .nil) .nil) (.cons (.clos 8 [11, 12, 13, 14, 15, 16, 17, 18, 19, 20, 21, 22, 23, 24, 25, 26]) (.cons (.asg (.nm 9) (.flst (.cons (.str "lines") (.cons (.str "chances") (.cons (.str "lines") (.cons (.str "lines") (.cons (.str "chances") (.cons (.str "row") (.cons (.str "row") (.cons (.str "lines") (.cons (.str "lines") (.cons (.str "number") (.cons (.str "lines") (.cons (.str "number") .nil)))))))))))))) (.cons (.ife (.cmp .NotEq (.words 0 8 18 1) (.fbin .Add (.var 9) (.flst (.cons (.str "row") (.cons (.str "row") (.cons (.str "lines") (.cons (.str "row") .nil))))))) (.cons (.ret (.bl false)) .nil) .nil) (.cons (.asg (.nm 10) (.call 51 (.cons (.var 0) (.cons (.flst (.cons (.var 13) (.cons (.tup (.cons (.neg (.int 1)) (.cons (.int 2) .nil))) (.cons (.tup (.cons (.neg (.int 7)) (.cons (.int 1) .nil))) .nil)))) .nil)))) (.cons (.asg (.nm 11) (.flst (.cons .non (.cons (.tup .nil) (.cons (.flst (.cons (.var 15) .nil)) (.cons (.tup (.cons (.var 15) (.cons (.tup (.cons (.var 12) .nil)) .nil))) (.cons (.tup (.cons (.var 15) (.cons .non .nil))) (.cons (.var 15) (.cons (.tup (.cons (.var 15) (.cons (.tup (.cons (.var 12) (.cons (.tup (.cons (.int 2) (.cons (.int 2) .nil))) .nil))) .nil))) (.cons (.str "lines") (.cons (.tup (.cons (.flsc (.var 15)) .nil)) (.cons .fdct .nil)))))))))))) (.cons (.asg (.nm 11) (.call 51 (.cons (.var 0) (.cons (.var 11) .nil)))) (.cons (.clos 8 [27, 28, 29, 30, 31]) (.cons (.ret (.cmp .Eq (.words 0 8 18 2) (.flst (.cons (.str "refused ('nought',)") (.cons (.str "fine") (.cons (.str "operation") (.cons (.str "fine") (.cons (.str "fine") .nil)))))))) .nil)))))))))))))))))))
def f53 : FD := ⟨"_law_right", "_law_right", ⟨1, 20, [], b53⟩, ["dice", "lines", "odd", "bad", "row", "wrong", "number", "weights", "calls", "due", "less", "some", "one", "none", "half", "low", "high", "chances", "call", "at"], [8, 18], 11, 1⟩
/-- law -/
def b54 : Ss := (.cons (.for (.nm 1) (.rng1 (.bi2 .max (.int 1) (.bi2 .min (.int 5) (.bi1 .len (.var 0))))) (.cons (.asg (.nm 6) (.call 49 (.cons (.var 0) (.cons (.var 1) .nil)))) (.cons (.for (.nm 7) (.rng1 (.int 5)) (.cons (.ife (.not (.call 53 (.cons (.var 6) .nil))) (.cons (.ret (.bl false)) .nil) .nil) .nil)) .nil))) (.cons (.asg (.nm 2) (.bi1 .tuple (.lc (.tup (.cons (.tup (.cons (.var 9) (.cons (.int 1) .nil))) .nil)) (.nm 9) (.rng1 (.int 41)) .no 0))) (.cons (.asg (.nm 3) (.lst (.cons (.lwd 0 32 [2]) .nil))) (.cons (.expr (.met .append (.var 3) (.lwd 0 33 [2]))) (.cons (.asg (.nm 4) (.flst (.cons .non (.cons (.bl true) (.cons (.int 0) (.cons (.str "") (.cons (.flst .nil) (.cons .fdct (.cons (.tup .nil) (.cons (.tup (.cons (.int 1) .nil)) (.cons (.tup (.cons (.tup (.cons (.int 1) (.cons (.int 1) .nil))) .nil)) (.cons (.tup (.cons (.tup (.cons (.tup (.cons (.int 1) (.cons (.int 1) .nil))) .nil)) (.cons .non .nil))) (.cons (.flst (.cons (.tup (.cons (.tup (.cons (.int 1) (.cons (.int 1) .nil))) .nil)) .nil)) (.cons (.tup (.cons (.tup (.cons (.tup (.cons (.int 1) (.cons (.int 1) .nil))) (.cons (.tup (.cons (.int 1) (.cons (.int 1) .nil))) .nil))) .nil)) .nil)))))))))))))) (.cons (.asg (.nm 5) (.flc (.fcall 35 (.cons (.int 1) (.cons (.var 8) .nil))) (.nm 8) (.seq (.var 4)) .no 1)) (.cons (.ret (.bop .And (.cons (.cmp .Eq (.var 3) (.flst (.cons (.str "fine") (.cons (.str "many 40") .nil)))) (.cons (.cmp .Eq (.lc (.var 10) (.nm 10) (.seq (.var 5)) (.so (.cmp .IsNot (.var 10) (.bl false))) 2) (.flst .nil)) .nil)))) .nil)))))))
def f54 : FD := ⟨"law", "law", ⟨1, 11, [], b54⟩, ["script", "spot", "many", "words", "values", "told", "dice", "turn", "value", "at", "each"], [], 32, 2⟩
def fds : List FD := [f0, f1, f2, f3, f4, f5, f6, f7, f8, f9, f10, f11, f12, f13, f14, f15, f16, f17, f18, f19, f20, f21, f22, f23, f24, f25, f26, f27, f28, f29, f30, f31, f32, f33, f34, f35, f36, f37, f38, f39, f40, f41, f42, f43, f44, f45, f46, f47, f48, f49, f50, f51, f52, f53, f54]
def gls : List (Str × D) := [("NOUGHT", .tup ([0, 1].map D.int)), ("ONE", .tup ([1, 1].map D.int)), ("MAX_WIDTH", .int 8), ("MAX_LINES", .int 40), ("NOTHING", .str "nought")]
def fuel : Nat := 2 ^ 1000000
def l0 : Lam := ⟨[0], 4, (.call 35 (.cons (.var 0) (.cons .non .nil)))⟩
def l1 : Lam := ⟨[0, 1], 4, (.call 36 (.cons (.var 0) (.cons (.var 1) (.cons (.var 1) .nil))))⟩
def l2 : Lam := ⟨[0, 1], 4, (.call 37 (.cons (.var 0) (.cons (.var 1) (.cons (.var 1) .nil))))⟩
def l3 : Lam := ⟨[0, 1], 4, (.call 38 (.cons (.var 0) (.cons (.var 1) (.cons (.var 1) .nil))))⟩
def l4 : Lam := ⟨[0, 1], 4, (.call 39 (.cons (.var 0) (.cons (.var 1) .nil)))⟩
def l5 : Lam := ⟨[0, 1], 4, (.call 41 (.cons (.var 0) (.cons (.var 1) (.cons .non .nil))))⟩
def l6 : Lam := ⟨[0, 1], 4, (.call 42 (.cons (.var 0) (.cons (.var 1) (.cons .non .nil))))⟩
def l7 : Lam := ⟨[0, 1], 4, (.call 45 (.cons (.var 0) (.cons (.var 1) .nil)))⟩
def l8 : Lam := ⟨[0, 1], 4, (.call 46 (.cons (.var 0) (.cons (.var 1) .nil)))⟩
def l9 : Lam := ⟨[0, 1], 4, (.call 47 (.cons (.var 0) (.cons (.var 1) (.cons (.var 1) .nil))))⟩
def l10 : Lam := ⟨[0, 1], 4, (.call 48 (.cons (.var 0) (.cons (.var 1) .nil)))⟩
def l11 : Lam := ⟨[3, 5], 20, (.call 36 (.cons (.int 2) (.cons (.var 3) (.cons (.var 5) .nil))))⟩
def l12 : Lam := ⟨[1, 5], 20, (.call 36 (.cons (.int 2) (.cons (.var 1) (.cons (.var 5) .nil))))⟩
def l13 : Lam := ⟨[3, 17], 20, (.call 36 (.cons (.int 2) (.cons (.var 3) (.cons (.var 17) .nil))))⟩
def l14 : Lam := ⟨[3, 5], 20, (.call 37 (.cons (.int 2) (.cons (.var 3) (.cons (.var 5) .nil))))⟩
def l15 : Lam := ⟨[1, 5], 20, (.call 37 (.cons (.int 2) (.cons (.var 1) (.cons (.var 5) .nil))))⟩
def l16 : Lam := ⟨[4, 15], 20, (.call 38 (.cons (.int 2) (.cons (.var 4) (.cons (.var 15) .nil))))⟩
def l17 : Lam := ⟨[4, 15], 20, (.call 38 (.cons (.int 2) (.cons (.var 15) (.cons (.var 4) .nil))))⟩
def l18 : Lam := ⟨[3], 20, (.call 39 (.cons (.int 2) (.cons (.var 3) .nil)))⟩
def l19 : Lam := ⟨[3, 6], 20, (.call 41 (.cons (.int 2) (.cons (.var 3) (.cons (.var 6) .nil))))⟩
def l20 : Lam := ⟨[1, 6], 20, (.call 41 (.cons (.int 2) (.cons (.var 1) (.cons (.var 6) .nil))))⟩
def l21 : Lam := ⟨[3, 13], 20, (.call 42 (.cons (.int 2) (.cons (.var 3) (.cons (.var 13) .nil))))⟩
def l22 : Lam := ⟨[1, 6], 20, (.call 42 (.cons (.int 2) (.cons (.var 1) (.cons (.var 6) .nil))))⟩
def l23 : Lam := ⟨[4], 20, (.call 45 (.cons (.int 2) (.cons (.var 4) .nil)))⟩
def l24 : Lam := ⟨[4], 20, (.call 46 (.cons (.int 2) (.cons (.var 4) .nil)))⟩
def l25 : Lam := ⟨[3, 7], 20, (.call 47 (.cons (.int 2) (.cons (.var 3) (.cons (.var 7) .nil))))⟩
def l26 : Lam := ⟨[1, 7], 20, (.call 47 (.cons (.int 2) (.cons (.var 1) (.cons (.var 7) .nil))))⟩
def l27 : Lam := ⟨[1, 10], 20, (.call 42 (.cons (.int 2) (.cons (.var 1) (.cons (.var 10) .nil))))⟩
def l28 : Lam := ⟨[1], 20, (.call 42 (.cons (.int 2) (.cons (.var 1) (.cons (.tup (.cons (.int 1) (.cons (.int 9) .nil))) .nil))))⟩
def l29 : Lam := ⟨[11], 20, (.call 48 (.cons (.int 2) (.cons (.var 11) .nil)))⟩
def l30 : Lam := ⟨[15, 16], 20, (.call 48 (.cons (.int 2) (.cons (.tup (.cons (.var 16) (.cons (.var 15) (.cons (.var 16) .nil)))) .nil)))⟩
def l31 : Lam := ⟨[1, 13], 20, (.call 47 (.cons (.int 2) (.cons (.var 1) (.cons (.tup (.cons (.var 13) (.cons (.var 13) .nil))) .nil))))⟩
def l32 : Lam := ⟨[2], 11, (.call 48 (.cons (.int 1) (.cons (.bin .Mult (.slc (.var 2) .no (.so (.int 40))) (.int 2)) .nil)))⟩
def l33 : Lam := ⟨[2], 11, (.call 48 (.cons (.int 1) (.cons (.var 2) .nil)))⟩
def lams : List Lam := [l0, l1, l2, l3, l4, l5, l6, l7, l8, l9, l10, l11, l12, l13, l14, l15, l16, l17, l18, l19, l20, l21, l22, l23, l24, l25, l26, l27, l28, l29, l30, l31, l32, l33]
def wrds : List (Str × Wrd) := [("_law_word", ⟨[⟨0, "chances", false⟩, ⟨1, "lines", false⟩, ⟨2, "row", false⟩, ⟨3, "number", false⟩, ⟨4, "operation", false⟩, ⟨5, "count ", true⟩, ⟨6, "many ", true⟩, ⟨7, "refused ", true⟩], "fine"⟩)]
def errs : List (Str × Bool × Str) := [("InvalidChances", false, ""), ("InvalidLines", false, ""), ("InvalidRow", false, ""), ("InvalidFraction", false, ""), ("InvalidOperation", false, ""), ("InvalidCount", true, "given"), ("TooMany", true, "limit"), ("Refused", true, "reason")]
def tab : Tab := ⟨fds, gls, fuel, lams, wrds, [f52.q, f53.q, f54.q], errs.map fun q => (q.1, q.2.1), exiOf errs 0⟩
def ix : List Nat := [14, 15, 16, 17, 18, 19, 20, 21, 22, 23, 25, 26, 27, 28, 29, 30, 31, 32, 34, 35, 36, 40, 41, 42, 43, 46, 47, 48, 49, 50, 51, 52, 53, 54, 55, 56, 57, 58, 59, 60, 61, 62, 63, 64, 65, 66, 67, 68, 69, 71, 72, 73, 75, 76, 77]
end X38
end
section
-- X38L
set_option Elab.async false
set_option linter.all false
set_option maxRecDepth 100000
namespace X38
open PySem Q
def st (i : Nat) : Stmt := topS PySem.Challenge.pw_sightroads_k38_errors_of_lines (ix.getD i 0)
theorem o0 : FOk tab f0 (st 0) := fok_by (by kernel_rfl) (by kernel_rfl) (sc_by (by kernel_rfl)) rfl (by decide) (by kernel_rfl) (by kernel_rfl) (by kernel_rfl) (.inl (by kernel_rfl)) (by decide)
theorem a0 : ∀ (kV doc pm : Value) (an : Option Addr) (cdv ct : Value) (us : List Value), us.length = (f0.N.take f0.fn.np).length → bindArgs (PySem.W.fnOf "is_integer" "is_integer" (L2.defArgs (st 0)) (L2.defBody (st 0)) (L2.defScope (st 0)) .none kV doc pm an cdv ct) ⟨us, []⟩ = pure ((f0.N.take f0.fn.np).zip us) := fun _ _ _ _ _ _ us hl => match us, hl with | [_], _ => rfl
theorem o1 : FOk tab f1 (st 1) := fok_by (by kernel_rfl) (by kernel_rfl) (sc_by (by kernel_rfl)) rfl (by decide) (by kernel_rfl) (by kernel_rfl) (by kernel_rfl) (.inl (by kernel_rfl)) (by decide)
theorem a1 : ∀ (kV doc pm : Value) (an : Option Addr) (cdv ct : Value) (us : List Value), us.length = (f1.N.take f1.fn.np).length → bindArgs (PySem.W.fnOf "common_divisor" "common_divisor" (L2.defArgs (st 1)) (L2.defBody (st 1)) (L2.defScope (st 1)) .none kV doc pm an cdv ct) ⟨us, []⟩ = pure ((f1.N.take f1.fn.np).zip us) := fun _ _ _ _ _ _ us hl => match us, hl with | [_, _], _ => rfl
theorem o2 : FOk tab f2 (st 2) := fok_by (by kernel_rfl) (by kernel_rfl) (sc_by (by kernel_rfl)) rfl (by decide) (by kernel_rfl) (by kernel_rfl) (by kernel_rfl) (.inl (by kernel_rfl)) (by decide)
theorem a2 : ∀ (kV doc pm : Value) (an : Option Addr) (cdv ct : Value) (us : List Value), us.length = (f2.N.take f2.fn.np).length → bindArgs (PySem.W.fnOf "is_number" "is_number" (L2.defArgs (st 2)) (L2.defBody (st 2)) (L2.defScope (st 2)) .none kV doc pm an cdv ct) ⟨us, []⟩ = pure ((f2.N.take f2.fn.np).zip us) := fun _ _ _ _ _ _ us hl => match us, hl with | [_], _ => rfl
theorem o3 : FOk tab f3 (st 3) := fok_by (by kernel_rfl) (by kernel_rfl) (sc_by (by kernel_rfl)) rfl (by decide) (by kernel_rfl) (by kernel_rfl) (by kernel_rfl) (.inl (by kernel_rfl)) (by decide)
theorem a3 : ∀ (kV doc pm : Value) (an : Option Addr) (cdv ct : Value) (us : List Value), us.length = (f3.N.take f3.fn.np).length → bindArgs (PySem.W.fnOf "reduced" "reduced" (L2.defArgs (st 3)) (L2.defBody (st 3)) (L2.defScope (st 3)) .none kV doc pm an cdv ct) ⟨us, []⟩ = pure ((f3.N.take f3.fn.np).zip us) := fun _ _ _ _ _ _ us hl => match us, hl with | [_, _], _ => rfl
theorem o4 : FOk tab f4 (st 4) := fok_by (by kernel_rfl) (by kernel_rfl) (sc_by (by kernel_rfl)) rfl (by decide) (by kernel_rfl) (by kernel_rfl) (by kernel_rfl) (.inl (by kernel_rfl)) (by decide)
theorem a4 : ∀ (kV doc pm : Value) (an : Option Addr) (cdv ct : Value) (us : List Value), us.length = (f4.N.take f4.fn.np).length → bindArgs (PySem.W.fnOf "require_number" "require_number" (L2.defArgs (st 4)) (L2.defBody (st 4)) (L2.defScope (st 4)) .none kV doc pm an cdv ct) ⟨us, []⟩ = pure ((f4.N.take f4.fn.np).zip us) := fun _ _ _ _ _ _ us hl => match us, hl with | [_], _ => rfl
theorem o5 : FOk tab f5 (st 5) := fok_by (by kernel_rfl) (by kernel_rfl) (sc_by (by kernel_rfl)) rfl (by decide) (by kernel_rfl) (by kernel_rfl) (by kernel_rfl) (.inl (by kernel_rfl)) (by decide)
theorem a5 : ∀ j, j ≤ f5.fn.df.length → BD f5 "require_count" (st 5) j := fun j hj => match j, hj with | 0, _ => (fun _ _ _ _ _ _ _ us its h1 h2 => match us, its, h1, h2 with | [_], [_, _], _, _ => ⟨_, rfl, rfl⟩) | 1, _ => (fun _ _ _ _ _ _ _ us its h1 h2 => match us, its, h1, h2 with | [_, _], [_, _], _, _ => ⟨_, rfl, rfl⟩) | 2, _ => (fun _ _ _ _ _ _ _ us its h1 h2 => match us, its, h1, h2 with | [_, _, _], [_, _], _, _ => ⟨_, rfl, rfl⟩)
theorem o6 : FOk tab f6 (st 6) := fok_by (by kernel_rfl) (by kernel_rfl) (sc_by (by kernel_rfl)) rfl (by decide) (by kernel_rfl) (by kernel_rfl) (by kernel_rfl) (.inl (by kernel_rfl)) (by decide)
theorem a6 : ∀ (kV doc pm : Value) (an : Option Addr) (cdv ct : Value) (us : List Value), us.length = (f6.N.take f6.fn.np).length → bindArgs (PySem.W.fnOf "added" "added" (L2.defArgs (st 6)) (L2.defBody (st 6)) (L2.defScope (st 6)) .none kV doc pm an cdv ct) ⟨us, []⟩ = pure ((f6.N.take f6.fn.np).zip us) := fun _ _ _ _ _ _ us hl => match us, hl with | [_, _], _ => rfl
theorem o7 : FOk tab f7 (st 7) := fok_by (by kernel_rfl) (by kernel_rfl) (sc_by (by kernel_rfl)) rfl (by decide) (by kernel_rfl) (by kernel_rfl) (by kernel_rfl) (.inl (by kernel_rfl)) (by decide)
theorem a7 : ∀ (kV doc pm : Value) (an : Option Addr) (cdv ct : Value) (us : List Value), us.length = (f7.N.take f7.fn.np).length → bindArgs (PySem.W.fnOf "multiplied" "multiplied" (L2.defArgs (st 7)) (L2.defBody (st 7)) (L2.defScope (st 7)) .none kV doc pm an cdv ct) ⟨us, []⟩ = pure ((f7.N.take f7.fn.np).zip us) := fun _ _ _ _ _ _ us hl => match us, hl with | [_, _], _ => rfl
theorem o8 : FOk tab f8 (st 8) := fok_by (by kernel_rfl) (by kernel_rfl) (sc_by (by kernel_rfl)) rfl (by decide) (by kernel_rfl) (by kernel_rfl) (by kernel_rfl) (.inl (by kernel_rfl)) (by decide)
theorem a8 : ∀ (kV doc pm : Value) (an : Option Addr) (cdv ct : Value) (us : List Value), us.length = (f8.N.take f8.fn.np).length → bindArgs (PySem.W.fnOf "opposite" "opposite" (L2.defArgs (st 8)) (L2.defBody (st 8)) (L2.defScope (st 8)) .none kV doc pm an cdv ct) ⟨us, []⟩ = pure ((f8.N.take f8.fn.np).zip us) := fun _ _ _ _ _ _ us hl => match us, hl with | [_], _ => rfl
theorem o9 : FOk tab f9 (st 9) := fok_by (by kernel_rfl) (by kernel_rfl) (sc_by (by kernel_rfl)) rfl (by decide) (by kernel_rfl) (by kernel_rfl) (by kernel_rfl) (.inl (by kernel_rfl)) (by decide)
theorem a9 : ∀ (kV doc pm : Value) (an : Option Addr) (cdv ct : Value) (us : List Value), us.length = (f9.N.take f9.fn.np).length → bindArgs (PySem.W.fnOf "sum_of" "sum_of" (L2.defArgs (st 9)) (L2.defBody (st 9)) (L2.defScope (st 9)) .none kV doc pm an cdv ct) ⟨us, []⟩ = pure ((f9.N.take f9.fn.np).zip us) := fun _ _ _ _ _ _ us hl => match us, hl with | [_], _ => rfl
theorem o10 : FOk tab f10 (st 10) := fok_by (by kernel_rfl) (by kernel_rfl) (sc_by (by kernel_rfl)) rfl (by decide) (by kernel_rfl) (by kernel_rfl) (by kernel_rfl) (.inl (by kernel_rfl)) (by decide)
theorem a10 : ∀ (kV doc pm : Value) (an : Option Addr) (cdv ct : Value) (us : List Value), us.length = (f10.N.take f10.fn.np).length → bindArgs (PySem.W.fnOf "is_plain_row" "is_plain_row" (L2.defArgs (st 10)) (L2.defBody (st 10)) (L2.defScope (st 10)) .none kV doc pm an cdv ct) ⟨us, []⟩ = pure ((f10.N.take f10.fn.np).zip us) := fun _ _ _ _ _ _ us hl => match us, hl with | [_, _], _ => rfl
theorem o11 : FOk tab f11 (st 11) := fok_by (by kernel_rfl) (by kernel_rfl) (sc_by (by kernel_rfl)) rfl (by decide) (by kernel_rfl) (by kernel_rfl) (by kernel_rfl) (.inl (by kernel_rfl)) (by decide)
theorem a11 : ∀ (kV doc pm : Value) (an : Option Addr) (cdv ct : Value) (us : List Value), us.length = (f11.N.take f11.fn.np).length → bindArgs (PySem.W.fnOf "rest_row" "rest_row" (L2.defArgs (st 11)) (L2.defBody (st 11)) (L2.defScope (st 11)) .none kV doc pm an cdv ct) ⟨us, []⟩ = pure ((f11.N.take f11.fn.np).zip us) := fun _ _ _ _ _ _ us hl => match us, hl with | [_], _ => rfl
theorem o12 : FOk tab f12 (st 12) := fok_by (by kernel_rfl) (by kernel_rfl) (sc_by (by kernel_rfl)) rfl (by decide) (by kernel_rfl) (by kernel_rfl) (by kernel_rfl) (.inl (by kernel_rfl)) (by decide)
theorem a12 : ∀ (kV doc pm : Value) (an : Option Addr) (cdv ct : Value) (us : List Value), us.length = (f12.N.take f12.fn.np).length → bindArgs (PySem.W.fnOf "sum_of_rows" "sum_of_rows" (L2.defArgs (st 12)) (L2.defBody (st 12)) (L2.defScope (st 12)) .none kV doc pm an cdv ct) ⟨us, []⟩ = pure ((f12.N.take f12.fn.np).zip us) := fun _ _ _ _ _ _ us hl => match us, hl with | [_, _], _ => rfl
theorem o13 : FOk tab f13 (st 13) := fok_by (by kernel_rfl) (by kernel_rfl) (sc_by (by kernel_rfl)) rfl (by decide) (by kernel_rfl) (by kernel_rfl) (by kernel_rfl) (.inl (by kernel_rfl)) (by decide)
theorem a13 : ∀ (kV doc pm : Value) (an : Option Addr) (cdv ct : Value) (us : List Value), us.length = (f13.N.take f13.fn.np).length → bindArgs (PySem.W.fnOf "times_row" "times_row" (L2.defArgs (st 13)) (L2.defBody (st 13)) (L2.defScope (st 13)) .none kV doc pm an cdv ct) ⟨us, []⟩ = pure ((f13.N.take f13.fn.np).zip us) := fun _ _ _ _ _ _ us hl => match us, hl with | [_, _], _ => rfl
theorem o14 : FOk tab f14 (st 14) := fok_by (by kernel_rfl) (by kernel_rfl) (sc_by (by kernel_rfl)) rfl (by decide) (by kernel_rfl) (by kernel_rfl) (by kernel_rfl) (.inl (by kernel_rfl)) (by decide)
theorem a14 : ∀ (kV doc pm : Value) (an : Option Addr) (cdv ct : Value) (us : List Value), us.length = (f14.N.take f14.fn.np).length → bindArgs (PySem.W.fnOf "less_times" "less_times" (L2.defArgs (st 14)) (L2.defBody (st 14)) (L2.defScope (st 14)) .none kV doc pm an cdv ct) ⟨us, []⟩ = pure ((f14.N.take f14.fn.np).zip us) := fun _ _ _ _ _ _ us hl => match us, hl with | [_, _, _], _ => rfl
theorem o15 : FOk tab f15 (st 15) := fok_by (by kernel_rfl) (by kernel_rfl) (sc_by (by kernel_rfl)) rfl (by decide) (by kernel_rfl) (by kernel_rfl) (by kernel_rfl) (.inl (by kernel_rfl)) (by decide)
theorem a15 : ∀ (kV doc pm : Value) (an : Option Addr) (cdv ct : Value) (us : List Value), us.length = (f15.N.take f15.fn.np).length → bindArgs (PySem.W.fnOf "difference_of" "difference_of" (L2.defArgs (st 15)) (L2.defBody (st 15)) (L2.defScope (st 15)) .none kV doc pm an cdv ct) ⟨us, []⟩ = pure ((f15.N.take f15.fn.np).zip us) := fun _ _ _ _ _ _ us hl => match us, hl with | [_, _], _ => rfl
theorem o16 : FOk tab f16 (st 16) := fok_by (by kernel_rfl) (by kernel_rfl) (sc_by (by kernel_rfl)) rfl (by decide) (by kernel_rfl) (by kernel_rfl) (by kernel_rfl) (.inl (by kernel_rfl)) (by decide)
theorem a16 : ∀ (kV doc pm : Value) (an : Option Addr) (cdv ct : Value) (us : List Value), us.length = (f16.N.take f16.fn.np).length → bindArgs (PySem.W.fnOf "product_of" "product_of" (L2.defArgs (st 16)) (L2.defBody (st 16)) (L2.defScope (st 16)) .none kV doc pm an cdv ct) ⟨us, []⟩ = pure ((f16.N.take f16.fn.np).zip us) := fun _ _ _ _ _ _ us hl => match us, hl with | [_, _], _ => rfl
theorem o17 : FOk tab f17 (st 17) := fok_by (by kernel_rfl) (by kernel_rfl) (sc_by (by kernel_rfl)) rfl (by decide) (by kernel_rfl) (by kernel_rfl) (by kernel_rfl) (.inl (by kernel_rfl)) (by decide)
theorem a17 : ∀ (kV doc pm : Value) (an : Option Addr) (cdv ct : Value) (us : List Value), us.length = (f17.N.take f17.fn.np).length → bindArgs (PySem.W.fnOf "led_told" "led_told" (L2.defArgs (st 17)) (L2.defBody (st 17)) (L2.defScope (st 17)) .none kV doc pm an cdv ct) ⟨us, []⟩ = pure ((f17.N.take f17.fn.np).zip us) := fun _ _ _ _ _ _ us hl => match us, hl with | [_, _, _], _ => rfl
theorem o18 : FOk tab f18 (st 18) := fok_by (by kernel_rfl) (by kernel_rfl) (sc_by (by kernel_rfl)) rfl (by decide) (by kernel_rfl) (by kernel_rfl) (by kernel_rfl) (.inl (by kernel_rfl)) (by decide)
theorem a18 : ∀ (kV doc pm : Value) (an : Option Addr) (cdv ct : Value) (us : List Value), us.length = (f18.N.take f18.fn.np).length → bindArgs (PySem.W.fnOf "are_from_nought" "are_from_nought" (L2.defArgs (st 18)) (L2.defBody (st 18)) (L2.defScope (st 18)) .none kV doc pm an cdv ct) ⟨us, []⟩ = pure ((f18.N.take f18.fn.np).zip us) := fun _ _ _ _ _ _ us hl => match us, hl with | [_], _ => rfl
theorem o19 : FOk tab f19 (st 19) := fok_by (by kernel_rfl) (by kernel_rfl) (sc_by (by kernel_rfl)) rfl (by decide) (by kernel_rfl) (by kernel_rfl) (by kernel_rfl) (.inl (by kernel_rfl)) (by decide)
theorem a19 : ∀ (kV doc pm : Value) (an : Option Addr) (cdv ct : Value) (us : List Value), us.length = (f19.N.take f19.fn.np).length → bindArgs (PySem.W.fnOf "does_reach" "does_reach" (L2.defArgs (st 19)) (L2.defBody (st 19)) (L2.defScope (st 19)) .none kV doc pm an cdv ct) ⟨us, []⟩ = pure ((f19.N.take f19.fn.np).zip us) := fun _ _ _ _ _ _ us hl => match us, hl with | [_, _], _ => rfl
theorem o20 : FOk tab f20 (st 20) := fok_by (by kernel_rfl) (by kernel_rfl) (sc_by (by kernel_rfl)) rfl (by decide) (by kernel_rfl) (by kernel_rfl) (by kernel_rfl) (.inl (by kernel_rfl)) (by decide)
theorem a20 : ∀ (kV doc pm : Value) (an : Option Addr) (cdv ct : Value) (us : List Value), us.length = (f20.N.take f20.fn.np).length → bindArgs (PySem.W.fnOf "is_plain_mix" "is_plain_mix" (L2.defArgs (st 20)) (L2.defBody (st 20)) (L2.defScope (st 20)) .none kV doc pm an cdv ct) ⟨us, []⟩ = pure ((f20.N.take f20.fn.np).zip us) := fun _ _ _ _ _ _ us hl => match us, hl with | [_, _], _ => rfl
theorem o21 : FOk tab f21 (st 21) := fok_by (by kernel_rfl) (by kernel_rfl) (sc_by (by kernel_rfl)) rfl (by decide) (by kernel_rfl) (by kernel_rfl) (by kernel_rfl) (.inl (by kernel_rfl)) (by decide)
theorem a21 : ∀ (kV doc pm : Value) (an : Option Addr) (cdv ct : Value) (us : List Value), us.length = (f21.N.take f21.fn.np).length → bindArgs (PySem.W.fnOf "require_width" "require_width" (L2.defArgs (st 21)) (L2.defBody (st 21)) (L2.defScope (st 21)) .none kV doc pm an cdv ct) ⟨us, []⟩ = pure ((f21.N.take f21.fn.np).zip us) := fun _ _ _ _ _ _ us hl => match us, hl with | [_], _ => rfl
theorem o22 : FOk tab f22 (st 22) := fok_by (by kernel_rfl) (by kernel_rfl) (sc_by (by kernel_rfl)) rfl (by decide) (by kernel_rfl) (by kernel_rfl) (by kernel_rfl) (.inl (by kernel_rfl)) (by decide)
theorem a22 : ∀ (kV doc pm : Value) (an : Option Addr) (cdv ct : Value) (us : List Value), us.length = (f22.N.take f22.fn.np).length → bindArgs (PySem.W.fnOf "is_plain_chances" "is_plain_chances" (L2.defArgs (st 22)) (L2.defBody (st 22)) (L2.defScope (st 22)) .none kV doc pm an cdv ct) ⟨us, []⟩ = pure ((f22.N.take f22.fn.np).zip us) := fun _ _ _ _ _ _ us hl => match us, hl with | [_, _], _ => rfl
theorem o23 : FOk tab f23 (st 23) := fok_by (by kernel_rfl) (by kernel_rfl) (sc_by (by kernel_rfl)) rfl (by decide) (by kernel_rfl) (by kernel_rfl) (by kernel_rfl) (.inl (by kernel_rfl)) (by decide)
theorem a23 : ∀ (kV doc pm : Value) (an : Option Addr) (cdv ct : Value) (us : List Value), us.length = (f23.N.take f23.fn.np).length → bindArgs (PySem.W.fnOf "require_chances" "require_chances" (L2.defArgs (st 23)) (L2.defBody (st 23)) (L2.defScope (st 23)) .none kV doc pm an cdv ct) ⟨us, []⟩ = pure ((f23.N.take f23.fn.np).zip us) := fun _ _ _ _ _ _ us hl => match us, hl with | [_, _], _ => rfl
theorem o24 : FOk tab f24 (st 24) := fok_by (by kernel_rfl) (by kernel_rfl) (sc_by (by kernel_rfl)) rfl (by decide) (by kernel_rfl) (by kernel_rfl) (by kernel_rfl) (.inl (by kernel_rfl)) (by decide)
theorem a24 : ∀ (kV doc pm : Value) (an : Option Addr) (cdv ct : Value) (us : List Value), us.length = (f24.N.take f24.fn.np).length → bindArgs (PySem.W.fnOf "require_line" "require_line" (L2.defArgs (st 24)) (L2.defBody (st 24)) (L2.defScope (st 24)) .none kV doc pm an cdv ct) ⟨us, []⟩ = pure ((f24.N.take f24.fn.np).zip us) := fun _ _ _ _ _ _ us hl => match us, hl with | [_, _], _ => rfl
theorem o25 : FOk tab f25 (st 25) := fok_by (by kernel_rfl) (by kernel_rfl) (sc_by (by kernel_rfl)) rfl (by decide) (by kernel_rfl) (by kernel_rfl) (by kernel_rfl) (.inl (by kernel_rfl)) (by decide)
theorem a25 : ∀ (kV doc pm : Value) (an : Option Addr) (cdv ct : Value) (us : List Value), us.length = (f25.N.take f25.fn.np).length → bindArgs (PySem.W.fnOf "is_less" "is_less" (L2.defArgs (st 25)) (L2.defBody (st 25)) (L2.defScope (st 25)) .none kV doc pm an cdv ct) ⟨us, []⟩ = pure ((f25.N.take f25.fn.np).zip us) := fun _ _ _ _ _ _ us hl => match us, hl with | [_, _], _ => rfl
theorem o26 : FOk tab f26 (st 26) := fok_by (by kernel_rfl) (by kernel_rfl) (sc_by (by kernel_rfl)) rfl (by decide) (by kernel_rfl) (by kernel_rfl) (by kernel_rfl) (.inl (by kernel_rfl)) (by decide)
theorem a26 : ∀ (kV doc pm : Value) (an : Option Addr) (cdv ct : Value) (us : List Value), us.length = (f26.N.take f26.fn.np).length → bindArgs (PySem.W.fnOf "is_plain_lines" "is_plain_lines" (L2.defArgs (st 26)) (L2.defBody (st 26)) (L2.defScope (st 26)) .none kV doc pm an cdv ct) ⟨us, []⟩ = pure ((f26.N.take f26.fn.np).zip us) := fun _ _ _ _ _ _ us hl => match us, hl with | [_, _], _ => rfl
theorem o27 : FOk tab f27 (st 27) := fok_by (by kernel_rfl) (by kernel_rfl) (sc_by (by kernel_rfl)) rfl (by decide) (by kernel_rfl) (by kernel_rfl) (by kernel_rfl) (.inl (by kernel_rfl)) (by decide)
theorem a27 : ∀ (kV doc pm : Value) (an : Option Addr) (cdv ct : Value) (us : List Value), us.length = (f27.N.take f27.fn.np).length → bindArgs (PySem.W.fnOf "require_lines" "require_lines" (L2.defArgs (st 27)) (L2.defBody (st 27)) (L2.defScope (st 27)) .none kV doc pm an cdv ct) ⟨us, []⟩ = pure ((f27.N.take f27.fn.np).zip us) := fun _ _ _ _ _ _ us hl => match us, hl with | [_, _], _ => rfl
theorem o28 : FOk tab f28 (st 28) := fok_by (by kernel_rfl) (by kernel_rfl) (sc_by (by kernel_rfl)) rfl (by decide) (by kernel_rfl) (by kernel_rfl) (by kernel_rfl) (.inl (by kernel_rfl)) (by decide)
theorem a28 : ∀ (kV doc pm : Value) (an : Option Addr) (cdv ct : Value) (us : List Value), us.length = (f28.N.take f28.fn.np).length → bindArgs (PySem.W.fnOf "require_lined" "require_lined" (L2.defArgs (st 28)) (L2.defBody (st 28)) (L2.defScope (st 28)) .none kV doc pm an cdv ct) ⟨us, []⟩ = pure ((f28.N.take f28.fn.np).zip us) := fun _ _ _ _ _ _ us hl => match us, hl with | [_, _], _ => rfl
theorem o29 : FOk tab f29 (st 29) := fok_by (by kernel_rfl) (by kernel_rfl) (sc_by (by kernel_rfl)) rfl (by decide) (by kernel_rfl) (by kernel_rfl) (by kernel_rfl) (.inl (by kernel_rfl)) (by decide)
theorem a29 : ∀ (kV doc pm : Value) (an : Option Addr) (cdv ct : Value) (us : List Value), us.length = (f29.N.take f29.fn.np).length → bindArgs (PySem.W.fnOf "top_mean" "top_mean" (L2.defArgs (st 29)) (L2.defBody (st 29)) (L2.defScope (st 29)) .none kV doc pm an cdv ct) ⟨us, []⟩ = pure ((f29.N.take f29.fn.np).zip us) := fun _ _ _ _ _ _ us hl => match us, hl with | [_, _], _ => rfl
theorem o30 : FOk tab f30 (st 30) := fok_by (by kernel_rfl) (by kernel_rfl) (sc_by (by kernel_rfl)) rfl (by decide) (by kernel_rfl) (by kernel_rfl) (by kernel_rfl) (.inl (by kernel_rfl)) (by decide)
theorem a30 : ∀ (kV doc pm : Value) (an : Option Addr) (cdv ct : Value) (us : List Value), us.length = (f30.N.take f30.fn.np).length → bindArgs (PySem.W.fnOf "best_by" "best_by" (L2.defArgs (st 30)) (L2.defBody (st 30)) (L2.defScope (st 30)) .none kV doc pm an cdv ct) ⟨us, []⟩ = pure ((f30.N.take f30.fn.np).zip us) := fun _ _ _ _ _ _ us hl => match us, hl with | [_, _], _ => rfl
theorem o31 : FOk tab f31 (st 31) := fok_by (by kernel_rfl) (by kernel_rfl) (sc_by (by kernel_rfl)) rfl (by decide) (by kernel_rfl) (by kernel_rfl) (by kernel_rfl) (.inl (by kernel_rfl)) (by decide)
theorem a31 : ∀ (kV doc pm : Value) (an : Option Addr) (cdv ct : Value) (us : List Value), us.length = (f31.N.take f31.fn.np).length → bindArgs (PySem.W.fnOf "is_above_by" "is_above_by" (L2.defArgs (st 31)) (L2.defBody (st 31)) (L2.defScope (st 31)) .none kV doc pm an cdv ct) ⟨us, []⟩ = pure ((f31.N.take f31.fn.np).zip us) := fun _ _ _ _ _ _ us hl => match us, hl with | [_, _], _ => rfl
theorem o32 : FOk tab f32 (st 32) := fok_by (by kernel_rfl) (by kernel_rfl) (sc_by (by kernel_rfl)) rfl (by decide) (by kernel_rfl) (by kernel_rfl) (by kernel_rfl) (.inl (by kernel_rfl)) (by decide)
theorem a32 : ∀ (kV doc pm : Value) (an : Option Addr) (cdv ct : Value) (us : List Value), us.length = (f32.N.take f32.fn.np).length → bindArgs (PySem.W.fnOf "mixed_by" "mixed_by" (L2.defArgs (st 32)) (L2.defBody (st 32)) (L2.defScope (st 32)) .none kV doc pm an cdv ct) ⟨us, []⟩ = pure ((f32.N.take f32.fn.np).zip us) := fun _ _ _ _ _ _ us hl => match us, hl with | [_, _], _ => rfl
theorem o33 : FOk tab f33 (st 33) := fok_by (by kernel_rfl) (by kernel_rfl) (sc_by (by kernel_rfl)) rfl (by decide) (by kernel_rfl) (by kernel_rfl) (by kernel_rfl) (.inl (by kernel_rfl)) (by decide)
theorem a33 : ∀ (kV doc pm : Value) (an : Option Addr) (cdv ct : Value) (us : List Value), us.length = (f33.N.take f33.fn.np).length → bindArgs (PySem.W.fnOf "ones_of" "ones_of" (L2.defArgs (st 33)) (L2.defBody (st 33)) (L2.defScope (st 33)) .none kV doc pm an cdv ct) ⟨us, []⟩ = pure ((f33.N.take f33.fn.np).zip us) := fun _ _ _ _ _ _ us hl => match us, hl with | [_], _ => rfl
theorem o34 : FOk tab f34 (st 34) := fok_by (by kernel_rfl) (by kernel_rfl) (sc_by (by kernel_rfl)) rfl (by decide) (by kernel_rfl) (by kernel_rfl) (by kernel_rfl) (.inl (by kernel_rfl)) (by decide)
theorem a34 : ∀ (kV doc pm : Value) (an : Option Addr) (cdv ct : Value) (us : List Value), us.length = (f34.N.take f34.fn.np).length → bindArgs (PySem.W.fnOf "top_by" "top_by" (L2.defArgs (st 34)) (L2.defBody (st 34)) (L2.defScope (st 34)) .none kV doc pm an cdv ct) ⟨us, []⟩ = pure ((f34.N.take f34.fn.np).zip us) := fun _ _ _ _ _ _ us hl => match us, hl with | [_], _ => rfl
theorem o35 : FOk tab f35 (st 35) := fok_by (by kernel_rfl) (by kernel_rfl) (sc_by (by kernel_rfl)) rfl (by decide) (by kernel_rfl) (by kernel_rfl) (by kernel_rfl) (.inl (by kernel_rfl)) (by decide)
theorem a35 : ∀ (kV doc pm : Value) (an : Option Addr) (cdv ct : Value) (us : List Value), us.length = (f35.N.take f35.fn.np).length → bindArgs (PySem.W.fnOf "is_lines" "is_lines" (L2.defArgs (st 35)) (L2.defBody (st 35)) (L2.defScope (st 35)) .none kV doc pm an cdv ct) ⟨us, []⟩ = pure ((f35.N.take f35.fn.np).zip us) := fun _ _ _ _ _ _ us hl => match us, hl with | [_, _], _ => rfl
theorem o36 : FOk tab f36 (st 36) := fok_by (by kernel_rfl) (by kernel_rfl) (sc_by (by kernel_rfl)) rfl (by decide) (by kernel_rfl) (by kernel_rfl) (by kernel_rfl) (.inl (by kernel_rfl)) (by decide)
theorem a36 : ∀ (kV doc pm : Value) (an : Option Addr) (cdv ct : Value) (us : List Value), us.length = (f36.N.take f36.fn.np).length → bindArgs (PySem.W.fnOf "greatest" "greatest" (L2.defArgs (st 36)) (L2.defBody (st 36)) (L2.defScope (st 36)) .none kV doc pm an cdv ct) ⟨us, []⟩ = pure ((f36.N.take f36.fn.np).zip us) := fun _ _ _ _ _ _ us hl => match us, hl with | [_, _, _], _ => rfl
theorem o37 : FOk tab f37 (st 37) := fok_by (by kernel_rfl) (by kernel_rfl) (sc_by (by kernel_rfl)) rfl (by decide) (by kernel_rfl) (by kernel_rfl) (by kernel_rfl) (.inl (by kernel_rfl)) (by decide)
theorem a37 : ∀ (kV doc pm : Value) (an : Option Addr) (cdv ct : Value) (us : List Value), us.length = (f37.N.take f37.fn.np).length → bindArgs (PySem.W.fnOf "best_lines" "best_lines" (L2.defArgs (st 37)) (L2.defBody (st 37)) (L2.defScope (st 37)) .none kV doc pm an cdv ct) ⟨us, []⟩ = pure ((f37.N.take f37.fn.np).zip us) := fun _ _ _ _ _ _ us hl => match us, hl with | [_, _, _], _ => rfl
theorem o38 : FOk tab f38 (st 38) := fok_by (by kernel_rfl) (by kernel_rfl) (sc_by (by kernel_rfl)) rfl (by decide) (by kernel_rfl) (by kernel_rfl) (by kernel_rfl) (.inl (by kernel_rfl)) (by decide)
theorem a38 : ∀ (kV doc pm : Value) (an : Option Addr) (cdv ct : Value) (us : List Value), us.length = (f38.N.take f38.fn.np).length → bindArgs (PySem.W.fnOf "is_above" "is_above" (L2.defArgs (st 38)) (L2.defBody (st 38)) (L2.defScope (st 38)) .none kV doc pm an cdv ct) ⟨us, []⟩ = pure ((f38.N.take f38.fn.np).zip us) := fun _ _ _ _ _ _ us hl => match us, hl with | [_, _, _], _ => rfl
theorem o39 : FOk tab f39 (st 39) := fok_by (by kernel_rfl) (by kernel_rfl) (sc_by (by kernel_rfl)) rfl (by decide) (by kernel_rfl) (by kernel_rfl) (by kernel_rfl) (.inl (by kernel_rfl)) (by decide)
theorem a39 : ∀ (kV doc pm : Value) (an : Option Addr) (cdv ct : Value) (us : List Value), us.length = (f39.N.take f39.fn.np).length → bindArgs (PySem.W.fnOf "top_lines" "top_lines" (L2.defArgs (st 39)) (L2.defBody (st 39)) (L2.defScope (st 39)) .none kV doc pm an cdv ct) ⟨us, []⟩ = pure ((f39.N.take f39.fn.np).zip us) := fun _ _ _ _ _ _ us hl => match us, hl with | [_, _], _ => rfl
theorem o40 : FOk tab f40 (st 40) := fok_by (by kernel_rfl) (by kernel_rfl) (sc_by (by kernel_rfl)) rfl (by decide) (by kernel_rfl) (by kernel_rfl) (by kernel_rfl) (.inl (by kernel_rfl)) (by decide)
theorem a40 : ∀ (kV doc pm : Value) (an : Option Addr) (cdv ct : Value) (us : List Value), us.length = (f40.N.take f40.fn.np).length → bindArgs (PySem.W.fnOf "lifted_by" "lifted_by" (L2.defArgs (st 40)) (L2.defBody (st 40)) (L2.defScope (st 40)) .none kV doc pm an cdv ct) ⟨us, []⟩ = pure ((f40.N.take f40.fn.np).zip us) := fun _ _ _ _ _ _ us hl => match us, hl with | [_, _], _ => rfl
theorem o41 : FOk tab f41 (st 41) := fok_by (by kernel_rfl) (by kernel_rfl) (sc_by (by kernel_rfl)) rfl (by decide) (by kernel_rfl) (by kernel_rfl) (by kernel_rfl) (.inl (by kernel_rfl)) (by decide)
theorem a41 : ∀ (kV doc pm : Value) (an : Option Addr) (cdv ct : Value) (us : List Value), us.length = (f41.N.take f41.fn.np).length → bindArgs (PySem.W.fnOf "lifted" "lifted" (L2.defArgs (st 41)) (L2.defBody (st 41)) (L2.defScope (st 41)) .none kV doc pm an cdv ct) ⟨us, []⟩ = pure ((f41.N.take f41.fn.np).zip us) := fun _ _ _ _ _ _ us hl => match us, hl with | [_, _, _], _ => rfl
theorem o42 : FOk tab f42 (st 42) := fok_by (by kernel_rfl) (by kernel_rfl) (sc_by (by kernel_rfl)) rfl (by decide) (by kernel_rfl) (by kernel_rfl) (by kernel_rfl) (.inl (by kernel_rfl)) (by decide)
theorem a42 : ∀ (kV doc pm : Value) (an : Option Addr) (cdv ct : Value) (us : List Value), us.length = (f42.N.take f42.fn.np).length → bindArgs (PySem.W.fnOf "scaled" "scaled" (L2.defArgs (st 42)) (L2.defBody (st 42)) (L2.defScope (st 42)) .none kV doc pm an cdv ct) ⟨us, []⟩ = pure ((f42.N.take f42.fn.np).zip us) := fun _ _ _ _ _ _ us hl => match us, hl with | [_, _, _], _ => rfl
theorem o43 : FOk tab f43 (st 43) := fok_by (by kernel_rfl) (by kernel_rfl) (sc_by (by kernel_rfl)) rfl (by decide) (by kernel_rfl) (by kernel_rfl) (by kernel_rfl) (.inl (by kernel_rfl)) (by decide)
theorem a43 : ∀ (kV doc pm : Value) (an : Option Addr) (cdv ct : Value) (us : List Value), us.length = (f43.N.take f43.fn.np).length → bindArgs (PySem.W.fnOf "least_of_row" "least_of_row" (L2.defArgs (st 43)) (L2.defBody (st 43)) (L2.defScope (st 43)) .none kV doc pm an cdv ct) ⟨us, []⟩ = pure ((f43.N.take f43.fn.np).zip us) := fun _ _ _ _ _ _ us hl => match us, hl with | [_], _ => rfl
theorem o44 : FOk tab f44 (st 44) := fok_by (by kernel_rfl) (by kernel_rfl) (sc_by (by kernel_rfl)) rfl (by decide) (by kernel_rfl) (by kernel_rfl) (by kernel_rfl) (.inl (by kernel_rfl)) (by decide)
theorem a44 : ∀ (kV doc pm : Value) (an : Option Addr) (cdv ct : Value) (us : List Value), us.length = (f44.N.take f44.fn.np).length → bindArgs (PySem.W.fnOf "greatest_of_row" "greatest_of_row" (L2.defArgs (st 44)) (L2.defBody (st 44)) (L2.defScope (st 44)) .none kV doc pm an cdv ct) ⟨us, []⟩ = pure ((f44.N.take f44.fn.np).zip us) := fun _ _ _ _ _ _ us hl => match us, hl with | [_], _ => rfl
theorem o45 : FOk tab f45 (st 45) := fok_by (by kernel_rfl) (by kernel_rfl) (sc_by (by kernel_rfl)) rfl (by decide) (by kernel_rfl) (by kernel_rfl) (by kernel_rfl) (.inl (by kernel_rfl)) (by decide)
theorem a45 : ∀ (kV doc pm : Value) (an : Option Addr) (cdv ct : Value) (us : List Value), us.length = (f45.N.take f45.fn.np).length → bindArgs (PySem.W.fnOf "least_number" "least_number" (L2.defArgs (st 45)) (L2.defBody (st 45)) (L2.defScope (st 45)) .none kV doc pm an cdv ct) ⟨us, []⟩ = pure ((f45.N.take f45.fn.np).zip us) := fun _ _ _ _ _ _ us hl => match us, hl with | [_, _], _ => rfl
theorem o46 : FOk tab f46 (st 46) := fok_by (by kernel_rfl) (by kernel_rfl) (sc_by (by kernel_rfl)) rfl (by decide) (by kernel_rfl) (by kernel_rfl) (by kernel_rfl) (.inl (by kernel_rfl)) (by decide)
theorem a46 : ∀ (kV doc pm : Value) (an : Option Addr) (cdv ct : Value) (us : List Value), us.length = (f46.N.take f46.fn.np).length → bindArgs (PySem.W.fnOf "greatest_number" "greatest_number" (L2.defArgs (st 46)) (L2.defBody (st 46)) (L2.defScope (st 46)) .none kV doc pm an cdv ct) ⟨us, []⟩ = pure ((f46.N.take f46.fn.np).zip us) := fun _ _ _ _ _ _ us hl => match us, hl with | [_, _], _ => rfl
theorem o47 : FOk tab f47 (st 47) := fok_by (by kernel_rfl) (by kernel_rfl) (sc_by (by kernel_rfl)) rfl (by decide) (by kernel_rfl) (by kernel_rfl) (by kernel_rfl) (.inl (by kernel_rfl)) (by decide)
theorem a47 : ∀ (kV doc pm : Value) (an : Option Addr) (cdv ct : Value) (us : List Value), us.length = (f47.N.take f47.fn.np).length → bindArgs (PySem.W.fnOf "mixed" "mixed" (L2.defArgs (st 47)) (L2.defBody (st 47)) (L2.defScope (st 47)) .none kV doc pm an cdv ct) ⟨us, []⟩ = pure ((f47.N.take f47.fn.np).zip us) := fun _ _ _ _ _ _ us hl => match us, hl with | [_, _, _], _ => rfl
theorem o48 : FOk tab f48 (st 48) := fok_by (by kernel_rfl) (by kernel_rfl) (sc_by (by kernel_rfl)) rfl (by decide) (by kernel_rfl) (by kernel_rfl) (by kernel_rfl) (.inl (by kernel_rfl)) (by decide)
theorem a48 : ∀ (kV doc pm : Value) (an : Option Addr) (cdv ct : Value) (us : List Value), us.length = (f48.N.take f48.fn.np).length → bindArgs (PySem.W.fnOf "one_lines" "one_lines" (L2.defArgs (st 48)) (L2.defBody (st 48)) (L2.defScope (st 48)) .none kV doc pm an cdv ct) ⟨us, []⟩ = pure ((f48.N.take f48.fn.np).zip us) := fun _ _ _ _ _ _ us hl => match us, hl with | [_, _], _ => rfl
theorem o49 : FOk tab f49 (st 49) := fok_by (by kernel_rfl) (by kernel_rfl) (sc_by (by kernel_rfl)) rfl (by decide) (by kernel_rfl) (by kernel_rfl) (by kernel_rfl) (.inl (by kernel_rfl)) (by decide)
theorem a49 : ∀ (kV doc pm : Value) (an : Option Addr) (cdv ct : Value) (us : List Value), us.length = (f49.N.take f49.fn.np).length → bindArgs (PySem.W.fnOf "_law_dice" "_law_dice" (L2.defArgs (st 49)) (L2.defBody (st 49)) (L2.defScope (st 49)) .none kV doc pm an cdv ct) ⟨us, []⟩ = pure ((f49.N.take f49.fn.np).zip us) := fun _ _ _ _ _ _ us hl => match us, hl with | [_, _], _ => rfl
theorem o50 : FOk tab f50 (st 50) := fok_by (by kernel_rfl) (by kernel_rfl) (sc_by (by kernel_rfl)) rfl (by decide) (by kernel_rfl) (by kernel_rfl) (by kernel_rfl) (.inl (by kernel_rfl)) (by decide)
theorem a50 : ∀ (kV doc pm : Value) (an : Option Addr) (cdv ct : Value) (us : List Value), us.length = (f50.N.take f50.fn.np).length → bindArgs (PySem.W.fnOf "_law_roll" "_law_roll" (L2.defArgs (st 50)) (L2.defBody (st 50)) (L2.defScope (st 50)) .none kV doc pm an cdv ct) ⟨us, []⟩ = pure ((f50.N.take f50.fn.np).zip us) := fun _ _ _ _ _ _ us hl => match us, hl with | [_, _], _ => rfl
theorem o51 : FOk tab f51 (st 51) := fok_by (by kernel_rfl) (by kernel_rfl) (sc_by (by kernel_rfl)) rfl (by decide) (by kernel_rfl) (by kernel_rfl) (by kernel_rfl) (.inl (by kernel_rfl)) (by decide)
theorem a51 : ∀ (kV doc pm : Value) (an : Option Addr) (cdv ct : Value) (us : List Value), us.length = (f51.N.take f51.fn.np).length → bindArgs (PySem.W.fnOf "_law_pick" "_law_pick" (L2.defArgs (st 51)) (L2.defBody (st 51)) (L2.defScope (st 51)) .none kV doc pm an cdv ct) ⟨us, []⟩ = pure ((f51.N.take f51.fn.np).zip us) := fun _ _ _ _ _ _ us hl => match us, hl with | [_, _], _ => rfl
theorem o52 : FOk tab f52 (st 52) := fok_by (by kernel_rfl) (by kernel_rfl) (sc_by (by kernel_rfl)) rfl (by decide) (by kernel_rfl) (by kernel_rfl) (by kernel_rfl) (.inr rfl) (by decide)
theorem a52 : ∀ (kV doc pm : Value) (an : Option Addr) (cdv ct : Value) (us : List Value), us.length = (f52.N.take f52.fn.np).length → bindArgs (PySem.W.fnOf "_law_widths_right" "_law_widths_right" (L2.defArgs (st 52)) (L2.defBody (st 52)) (L2.defScope (st 52)) .none kV doc pm an cdv ct) ⟨us, []⟩ = pure ((f52.N.take f52.fn.np).zip us) := fun _ _ _ _ _ _ us hl => match us, hl with | [_, _], _ => rfl
theorem o53 : FOk tab f53 (st 53) := fok_by (by kernel_rfl) (by kernel_rfl) (sc_by (by kernel_rfl)) rfl (by decide) (by kernel_rfl) (by kernel_rfl) (by kernel_rfl) (.inr rfl) (by decide)
theorem a53 : ∀ (kV doc pm : Value) (an : Option Addr) (cdv ct : Value) (us : List Value), us.length = (f53.N.take f53.fn.np).length → bindArgs (PySem.W.fnOf "_law_right" "_law_right" (L2.defArgs (st 53)) (L2.defBody (st 53)) (L2.defScope (st 53)) .none kV doc pm an cdv ct) ⟨us, []⟩ = pure ((f53.N.take f53.fn.np).zip us) := fun _ _ _ _ _ _ us hl => match us, hl with | [_], _ => rfl
theorem o54 : FOk tab f54 (st 54) := fok_by (by kernel_rfl) (by kernel_rfl) (sc_by (by kernel_rfl)) rfl (by decide) (by kernel_rfl) (by kernel_rfl) (by kernel_rfl) (.inr rfl) (by decide)
theorem a54 : ∀ (kV doc pm : Value) (an : Option Addr) (cdv ct : Value) (us : List Value), us.length = (f54.N.take f54.fn.np).length → bindArgs (PySem.W.fnOf "law" "law" (L2.defArgs (st 54)) (L2.defBody (st 54)) (L2.defScope (st 54)) .none kV doc pm an cdv ct) ⟨us, []⟩ = pure ((f54.N.take f54.fn.np).zip us) := fun _ _ _ _ _ _ us hl => match us, hl with | [_], _ => rfl
def wst0 : Stmt := topS PySem.Challenge.pw_sightroads_k38_errors_of_lines 74
theorem wb0 : ∀ (kV doc pm : Value) (an : Option Addr) (cdv ct : Value) (us : List Value), us.length = 1 → bindArgs (PySem.W.fnOf "_law_word" "_law_word" (L2.defArgs wst0) (L2.defBody wst0) (L2.defScope wst0) .none kV doc pm an cdv ct) ⟨us, []⟩ = pure ([("call" : Str)].zip us) := fun _ _ _ _ _ _ us hl => match us, hl with | [_], _ => rfl
def est5 : Stmt := L2.inClass (topS PySem.Challenge.pw_sightroads_k38_errors_of_lines 7) 0
theorem eb5 : ∀ (q : Str) (kV doc pm : Value) (an : Option Addr) (cda : Addr) (ct u0 u1 : Value) (cc : Addr), bindArgs (PySem.W.ksFn "__init__" q (L2.defArgs est5) (L2.defBody est5) (L2.defScope est5) .none kV doc pm an (.ref cda) ct cc) ⟨[u0, u1], []⟩ = pure [(("self" : Str), u0), (("given" : Str), u1)] := fun _ _ _ _ _ _ _ _ _ _ => rfl
def est6 : Stmt := L2.inClass (topS PySem.Challenge.pw_sightroads_k38_errors_of_lines 8) 0
theorem eb6 : ∀ (q : Str) (kV doc pm : Value) (an : Option Addr) (cda : Addr) (ct u0 u1 : Value) (cc : Addr), bindArgs (PySem.W.ksFn "__init__" q (L2.defArgs est6) (L2.defBody est6) (L2.defScope est6) .none kV doc pm an (.ref cda) ct cc) ⟨[u0, u1], []⟩ = pure [(("self" : Str), u0), (("limit" : Str), u1)] := fun _ _ _ _ _ _ _ _ _ _ => rfl
def est7 : Stmt := L2.inClass (topS PySem.Challenge.pw_sightroads_k38_errors_of_lines 9) 0
theorem eb7 : ∀ (q : Str) (kV doc pm : Value) (an : Option Addr) (cda : Addr) (ct u0 u1 : Value) (cc : Addr), bindArgs (PySem.W.ksFn "__init__" q (L2.defArgs est7) (L2.defBody est7) (L2.defScope est7) .none kV doc pm an (.ref cda) ct cc) ⟨[u0, u1], []⟩ = pure [(("self" : Str), u0), (("reason" : Str), u1)] := fun _ _ _ _ _ _ _ _ _ _ => rfl
end X38
end
section
-- X38D
set_option Elab.async false
set_option linter.all false
set_option maxRecDepth 100000
set_option maxHeartbeats 0
namespace X38
open PySem Q
def ct_right : List Ct := [.dom [(12, [.tup [.int 1, .int 1]]), (13, [.tup [.int 0, .int 1]]), (14, [.tup [.int 1, .int 2]])],
  .dom [(15, [.tup [.tup [.int 0, .int 1], .tup [.int 1, .int 1]]]), (16, [.tup [.tup [.int 1, .int 1], .tup [.int 0, .int 1]]]), (17, [.tup [.tup [.int 1, .int 2], .tup [.int 1, .int 2]]])],
  .dom [(1, [.tup [.tup [.tup [.int 0, .int 1], .tup [.int 1, .int 1]], .tup [.tup [.int 1, .int 1], .tup [.int 0, .int 1]]]])],
  .dom [(2, [.non, .int 0, .int (-1), .int 9, .bl true, .str "2", .tup [.int 2], .int 100000000000000000000])],
  .dom [(3, [.fz [.non, .tup [], .fz [.tup [.tup [.int 0, .int 1], .tup [.int 1, .int 1]], .tup [.tup [.int 1, .int 1], .tup [.int 0, .int 1]]], .tup [.tup [.tup [.int 1, .int 1], .tup [.int 0, .int 1]], .tup [.tup [.int 0, .int 1], .tup [.int 1, .int 1]]], .tup [.tup [.tup [.int 0, .int 1], .tup [.int 1, .int 1]], .tup [.tup [.int 0, .int 1], .tup [.int 1, .int 1]]], .tup [.tup [.tup [.int 0, .int 1], .tup [.int 1, .int 1]], .tup [.tup [.int 1, .int 1]]], .tup [.tup [.tup [.int 0, .int 1], .tup [.int 1, .int 1]], .tup [.tup [.int 1, .int 1], .tup [.int 2, .int 2]]], .tup [.tup [.int 0, .int 1], .tup [.int 1, .int 1]], .str "lines", .int 5, .fd]])],
  .dom [(3, [.non, .tup [], .fz [.tup [.tup [.int 0, .int 1], .tup [.int 1, .int 1]], .tup [.tup [.int 1, .int 1], .tup [.int 0, .int 1]]], .tup [.tup [.tup [.int 1, .int 1], .tup [.int 0, .int 1]], .tup [.tup [.int 0, .int 1], .tup [.int 1, .int 1]]], .tup [.tup [.tup [.int 0, .int 1], .tup [.int 1, .int 1]], .tup [.tup [.int 0, .int 1], .tup [.int 1, .int 1]]], .tup [.tup [.tup [.int 0, .int 1], .tup [.int 1, .int 1]], .tup [.tup [.int 1, .int 1]]], .tup [.tup [.tup [.int 0, .int 1], .tup [.int 1, .int 1]], .tup [.tup [.int 1, .int 1], .tup [.int 2, .int 2]]], .tup [.tup [.int 0, .int 1], .tup [.int 1, .int 1]], .str "lines", .int 5, .fd, .tup [.tup [.tup [.int 0, .int 1], .tup [.int 1, .int 1]], .fz [.tup [.int 1, .int 1], .tup [.int 0, .int 1]]], .tup [.tup [.tup [.int 0, .int 1], .tup [.int 1, .int 1]], .tup [.tup [.int 1, .int 1], .int 1]], .tup [.tup [.tup [.int 0, .int 1], .tup [.int 0, .int 1]], .tup [.tup [.int 1, .int 1], .tup [.int 0, .int 1]], .tup [.tup [.int 2, .int 1], .tup [.int 0, .int 1]], .tup [.tup [.int 3, .int 1], .tup [.int 0, .int 1]], .tup [.tup [.int 4, .int 1], .tup [.int 0, .int 1]], .tup [.tup [.int 5, .int 1], .tup [.int 0, .int 1]], .tup [.tup [.int 6, .int 1], .tup [.int 0, .int 1]], .tup [.tup [.int 7, .int 1], .tup [.int 0, .int 1]], .tup [.tup [.int 8, .int 1], .tup [.int 0, .int 1]], .tup [.tup [.int 9, .int 1], .tup [.int 0, .int 1]], .tup [.tup [.int 10, .int 1], .tup [.int 0, .int 1]], .tup [.tup [.int 11, .int 1], .tup [.int 0, .int 1]], .tup [.tup [.int 12, .int 1], .tup [.int 0, .int 1]], .tup [.tup [.int 13, .int 1], .tup [.int 0, .int 1]], .tup [.tup [.int 14, .int 1], .tup [.int 0, .int 1]], .tup [.tup [.int 15, .int 1], .tup [.int 0, .int 1]], .tup [.tup [.int 16, .int 1], .tup [.int 0, .int 1]], .tup [.tup [.int 17, .int 1], .tup [.int 0, .int 1]], .tup [.tup [.int 18, .int 1], .tup [.int 0, .int 1]], .tup [.tup [.int 19, .int 1], .tup [.int 0, .int 1]], .tup [.tup [.int 20, .int 1], .tup [.int 0, .int 1]], .tup [.tup [.int 21, .int 1], .tup [.int 0, .int 1]], .tup [.tup [.int 22, .int 1], .tup [.int 0, .int 1]], .tup [.tup [.int 23, .int 1], .tup [.int 0, .int 1]], .tup [.tup [.int 24, .int 1], .tup [.int 0, .int 1]], .tup [.tup [.int 25, .int 1], .tup [.int 0, .int 1]], .tup [.tup [.int 26, .int 1], .tup [.int 0, .int 1]], .tup [.tup [.int 27, .int 1], .tup [.int 0, .int 1]], .tup [.tup [.int 28, .int 1], .tup [.int 0, .int 1]], .tup [.tup [.int 29, .int 1], .tup [.int 0, .int 1]], .tup [.tup [.int 30, .int 1], .tup [.int 0, .int 1]], .tup [.tup [.int 31, .int 1], .tup [.int 0, .int 1]], .tup [.tup [.int 32, .int 1], .tup [.int 0, .int 1]], .tup [.tup [.int 33, .int 1], .tup [.int 0, .int 1]], .tup [.tup [.int 34, .int 1], .tup [.int 0, .int 1]], .tup [.tup [.int 35, .int 1], .tup [.int 0, .int 1]], .tup [.tup [.int 36, .int 1], .tup [.int 0, .int 1]], .tup [.tup [.int 37, .int 1], .tup [.int 0, .int 1]], .tup [.tup [.int 38, .int 1], .tup [.int 0, .int 1]], .tup [.tup [.int 39, .int 1], .tup [.int 0, .int 1]], .tup [.tup [.int 40, .int 1], .tup [.int 0, .int 1]]]])],
  .dom [(4, [.non, .tup [], .tup [.tup [.int 1, .int 1]], .fz [.tup [.int 1, .int 1], .tup [.int 1, .int 1]], .tup [.tup [.int 1, .int 1], .int 1], .tup [.tup [.int 1, .int 1], .tup [.int 2, .int 2]], .tup [.tup [.int 1, .int 1], .tup [.int 1, .int 1], .tup [.int 1, .int 1]], .str "row", .int 3])],
  .dom [(5, [.non, .tup [.tup [.int 1, .int 2], .tup [.int 1, .int 1]], .tup [.tup [.int 3, .int 2], .tup [.int (-1), .int 2]], .tup [.tup [.int 0, .int 1], .tup [.int 0, .int 1]], .tup [], .tup [.tup [.int 1, .int 1]], .fz [.tup [.int 1, .int 1], .tup [.int 1, .int 1]], .tup [.tup [.int 1, .int 1], .int 1], .tup [.tup [.int 1, .int 1], .tup [.int 2, .int 2]], .tup [.tup [.int 1, .int 1], .tup [.int 1, .int 1], .tup [.int 1, .int 1]], .str "row", .int 3])],
  .dom [(6, [.non, .int 1, .tup [.int 2, .int 2], .tup [.int 1, .int 0], .str "1", .fz [.int 1, .int 2], .tup [.int 1], .tup [.bl true, .int 1], .tup [.int 1, .int (-1)]])],
  .dom [(7, [.non, .tup [.tup [.int 1, .int 1], .tup [.int (-1), .int 2]], .tup [.tup [.int (-1), .int 9], .tup [.int 0, .int 1]], .tup [], .tup [.tup [.int 1, .int 1]], .fz [.tup [.int 1, .int 1], .tup [.int 1, .int 1]], .tup [.tup [.int 1, .int 1], .int 1], .tup [.tup [.int 1, .int 1], .tup [.int 2, .int 2]], .tup [.tup [.int 1, .int 1], .tup [.int 1, .int 1], .tup [.int 1, .int 1]], .str "row", .int 3])],
  .keep,
  .dom [(9, [.fz [.str "lines", .str "chances", .str "lines", .str "lines", .str "chances", .str "row", .str "row", .str "lines", .str "lines", .str "number", .str "lines", .str "number"]])],
  .us [[5], [], [], [5], [], [], [], [], [6], [], [], [], [], [], [7], []],
  .dom [(10, [.tup [.int 0, .int 1], .tup [.int (-1), .int 2], .tup [.int (-7), .int 1]])],
  .dom [(11, [.fz [.non, .tup [], .fz [.tup [.tup [.int 0, .int 1], .tup [.int 1, .int 1]]], .tup [.tup [.tup [.int 0, .int 1], .tup [.int 1, .int 1]], .tup [.tup [.int 1, .int 1]]], .tup [.tup [.tup [.int 0, .int 1], .tup [.int 1, .int 1]], .non], .tup [.tup [.int 0, .int 1], .tup [.int 1, .int 1]], .tup [.tup [.tup [.int 0, .int 1], .tup [.int 1, .int 1]], .tup [.tup [.int 1, .int 1], .tup [.int 2, .int 2]]], .str "lines", .tup [.fz [.tup [.int 0, .int 1], .tup [.int 1, .int 1]]], .fd]])],
  .dom [(11, [.non, .tup [], .fz [.tup [.tup [.int 0, .int 1], .tup [.int 1, .int 1]]], .tup [.tup [.tup [.int 0, .int 1], .tup [.int 1, .int 1]], .tup [.tup [.int 1, .int 1]]], .tup [.tup [.tup [.int 0, .int 1], .tup [.int 1, .int 1]], .non], .tup [.tup [.int 0, .int 1], .tup [.int 1, .int 1]], .tup [.tup [.tup [.int 0, .int 1], .tup [.int 1, .int 1]], .tup [.tup [.int 1, .int 1], .tup [.int 2, .int 2]]], .str "lines", .tup [.fz [.tup [.int 0, .int 1], .tup [.int 1, .int 1]]], .fd])],
  .keep,
  .us [[], [], [], [], []]]
def os_right : List Obl := (runR ⟨51, 50, 0⟩ true b53 [] ct_right).getD [.no]
theorem ob_right_0 : ∀ u, (os_right.getD 0 .no).ok tab.ctx (evCall tab.ctx 38) ⟨51, 50, 0⟩ (dslots f53.fn 0 []) true (subOf []) u = true := fun u => by kernel_rfl
theorem ob_right_1 : ∀ u, (os_right.getD 1 .no).ok tab.ctx (evCall tab.ctx 38) ⟨51, 50, 0⟩ (dslots f53.fn 0 []) true (subOf []) u = true := fun u => by kernel_rfl
theorem ob_right_2 : ∀ u, (os_right.getD 2 .no).ok tab.ctx (evCall tab.ctx 38) ⟨51, 50, 0⟩ (dslots f53.fn 0 []) true (subOf []) u = true := fun u => by kernel_rfl
theorem ob_right_3 : ∀ u, (os_right.getD 3 .no).ok tab.ctx (evCall tab.ctx 38) ⟨51, 50, 0⟩ (dslots f53.fn 0 []) true (subOf []) u = true := fun u => by kernel_rfl
theorem ob_right_4 : ∀ u, (os_right.getD 4 .no).ok tab.ctx (evCall tab.ctx 38) ⟨51, 50, 0⟩ (dslots f53.fn 0 []) true (subOf []) u = true := fun u => by kernel_rfl
theorem ob_right_5 : ∀ u, (os_right.getD 5 .no).ok tab.ctx (evCall tab.ctx 38) ⟨51, 50, 0⟩ (dslots f53.fn 0 []) true (subOf []) u = true := fun u => by kernel_rfl
theorem ob_right_6 : ∀ u, (os_right.getD 6 .no).ok tab.ctx (evCall tab.ctx 38) ⟨51, 50, 0⟩ (dslots f53.fn 0 []) true (subOf []) u = true := fun u => by kernel_rfl
theorem ob_right_7 : ∀ u, (os_right.getD 7 .no).ok tab.ctx (evCall tab.ctx 38) ⟨51, 50, 0⟩ (dslots f53.fn 0 []) true (subOf []) u = true := fun u => by kernel_rfl
theorem ob_right_8 : ∀ u, (os_right.getD 8 .no).ok tab.ctx (evCall tab.ctx 38) ⟨51, 50, 0⟩ (dslots f53.fn 0 []) true (subOf []) u = true := fun u => by kernel_rfl
theorem ob_right_9 : ∀ u, (os_right.getD 9 .no).ok tab.ctx (evCall tab.ctx 38) ⟨51, 50, 0⟩ (dslots f53.fn 0 []) true (subOf []) u = true := fun u => by kernel_rfl
theorem ob_right_10 : ∀ u, (os_right.getD 10 .no).ok tab.ctx (evCall tab.ctx 38) ⟨51, 50, 0⟩ (dslots f53.fn 0 []) true (subOf []) u = true := fun u => by kernel_rfl
theorem ob_right_11 : ∀ u, (os_right.getD 11 .no).ok tab.ctx (evCall tab.ctx 38) ⟨51, 50, 0⟩ (dslots f53.fn 0 []) true (subOf []) u = true := fun u => by kernel_rfl
theorem ob_right_12 : ∀ u, (os_right.getD 12 .no).ok tab.ctx (evCall tab.ctx 38) ⟨51, 50, 0⟩ (dslots f53.fn 0 []) true (subOf []) u = true := fun u => by kernel_rfl
theorem ob_right_13 : ∀ u, (os_right.getD 13 .no).ok tab.ctx (evCall tab.ctx 38) ⟨51, 50, 0⟩ (dslots f53.fn 0 []) true (subOf []) u = true := fun u => by kernel_rfl
theorem ob_right_14 : ∀ u, (os_right.getD 14 .no).ok tab.ctx (evCall tab.ctx 38) ⟨51, 50, 0⟩ (dslots f53.fn 0 []) true (subOf []) u = true := fun u => by kernel_rfl
theorem ob_right_15 : ∀ u, (os_right.getD 15 .no).ok tab.ctx (evCall tab.ctx 38) ⟨51, 50, 0⟩ (dslots f53.fn 0 []) true (subOf []) u = true := fun u => by kernel_rfl
theorem ob_right_16 : ∀ u, (os_right.getD 16 .no).ok tab.ctx (evCall tab.ctx 38) ⟨51, 50, 0⟩ (dslots f53.fn 0 []) true (subOf []) u = true := fun u => by kernel_rfl
theorem ob_right_17 : ∀ u, (os_right.getD 17 .no).ok tab.ctx (evCall tab.ctx 38) ⟨51, 50, 0⟩ (dslots f53.fn 0 []) true (subOf []) u = true := fun u => by kernel_rfl
theorem ob_right_18 : ∀ u, (os_right.getD 18 .no).ok tab.ctx (evCall tab.ctx 38) ⟨51, 50, 0⟩ (dslots f53.fn 0 []) true (subOf []) u = true := fun u => by kernel_rfl
theorem ob_right_19 : ∀ u, (os_right.getD 19 .no).ok tab.ctx (evCall tab.ctx 38) ⟨51, 50, 0⟩ (dslots f53.fn 0 []) true (subOf []) u = true := fun u => by kernel_rfl
theorem ob_right_20 : ∀ u, (os_right.getD 20 .no).ok tab.ctx (evCall tab.ctx 38) ⟨51, 50, 0⟩ (dslots f53.fn 0 []) true (subOf []) u = true := fun u => by kernel_rfl
theorem ob_right_21 : ∀ u, (os_right.getD 21 .no).ok tab.ctx (evCall tab.ctx 38) ⟨51, 50, 0⟩ (dslots f53.fn 0 []) true (subOf []) u = true := fun u => by kernel_rfl
theorem ob_right_22 : ∀ u, (os_right.getD 22 .no).ok tab.ctx (evCall tab.ctx 38) ⟨51, 50, 0⟩ (dslots f53.fn 0 []) true (subOf []) u = true := fun u => by kernel_rfl
theorem ob_right_23 : ∀ u, (os_right.getD 23 .no).ok tab.ctx (evCall tab.ctx 38) ⟨51, 50, 0⟩ (dslots f53.fn 0 []) true (subOf []) u = true := fun u => by kernel_rfl
theorem ob_right_24 : ∀ u, (os_right.getD 24 .no).ok tab.ctx (evCall tab.ctx 38) ⟨51, 50, 0⟩ (dslots f53.fn 0 []) true (subOf []) u = true := fun u => by kernel_rfl
theorem ob_right_25 : ∀ u, (os_right.getD 25 .no).ok tab.ctx (evCall tab.ctx 38) ⟨51, 50, 0⟩ (dslots f53.fn 0 []) true (subOf []) u = true := fun u => by kernel_rfl
theorem ob_right_26 : ∀ u, (os_right.getD 26 .no).ok tab.ctx (evCall tab.ctx 38) ⟨51, 50, 0⟩ (dslots f53.fn 0 []) true (subOf []) u = true := fun u => by kernel_rfl
theorem ob_right_27 : ∀ u, (os_right.getD 27 .no).ok tab.ctx (evCall tab.ctx 38) ⟨51, 50, 0⟩ (dslots f53.fn 0 []) true (subOf []) u = true := fun u => by kernel_rfl
theorem ob_right_28 : ∀ u, (os_right.getD 28 .no).ok tab.ctx (evCall tab.ctx 38) ⟨51, 50, 0⟩ (dslots f53.fn 0 []) true (subOf []) u = true := fun u => by kernel_rfl
theorem ob_right_29 : ∀ u, (os_right.getD 29 .no).ok tab.ctx (evCall tab.ctx 38) ⟨51, 50, 0⟩ (dslots f53.fn 0 []) true (subOf []) u = true := fun u => by kernel_rfl
theorem ob_right_30 : ∀ u, (os_right.getD 30 .no).ok tab.ctx (evCall tab.ctx 38) ⟨51, 50, 0⟩ (dslots f53.fn 0 []) true (subOf []) u = true := fun u => by kernel_rfl
theorem ob_right_31 : ∀ u, (os_right.getD 31 .no).ok tab.ctx (evCall tab.ctx 38) ⟨51, 50, 0⟩ (dslots f53.fn 0 []) true (subOf []) u = true := fun u => by kernel_rfl
theorem ob_right_32 : ∀ u, (os_right.getD 32 .no).ok tab.ctx (evCall tab.ctx 38) ⟨51, 50, 0⟩ (dslots f53.fn 0 []) true (subOf []) u = true := fun u => by kernel_rfl
theorem ob_right_33 : ∀ u, (os_right.getD 33 .no).ok tab.ctx (evCall tab.ctx 38) ⟨51, 50, 0⟩ (dslots f53.fn 0 []) true (subOf []) u = true := fun u => by kernel_rfl
theorem ob_right_34 : ∀ u, (os_right.getD 34 .no).ok tab.ctx (evCall tab.ctx 38) ⟨51, 50, 0⟩ (dslots f53.fn 0 []) true (subOf []) u = true := fun u => by kernel_rfl
theorem ob_right_35 : ∀ u, (os_right.getD 35 .no).ok tab.ctx (evCall tab.ctx 38) ⟨51, 50, 0⟩ (dslots f53.fn 0 []) true (subOf []) u = true := fun u => by kernel_rfl
theorem ob_right_36 : ∀ u, (os_right.getD 36 .no).ok tab.ctx (evCall tab.ctx 38) ⟨51, 50, 0⟩ (dslots f53.fn 0 []) true (subOf []) u = true := fun u => by kernel_rfl
theorem ob_right_37 : ∀ u, (os_right.getD 37 .no).ok tab.ctx (evCall tab.ctx 38) ⟨51, 50, 0⟩ (dslots f53.fn 0 []) true (subOf []) u = true := fun u => by kernel_rfl
theorem ob_right_38 : ∀ u, (os_right.getD 38 .no).ok tab.ctx (evCall tab.ctx 38) ⟨51, 50, 0⟩ (dslots f53.fn 0 []) true (subOf []) u = true := fun u => by kernel_rfl
theorem ob_right_39 : ∀ u, (os_right.getD 39 .no).ok tab.ctx (evCall tab.ctx 38) ⟨51, 50, 0⟩ (dslots f53.fn 0 []) true (subOf []) u = true := fun u => by kernel_rfl
theorem al_right : All tab.ctx (evCall tab.ctx 38) ⟨51, 50, 0⟩ (dslots f53.fn 0 []) true (subOf []) os_right := all_of (n := 40) (by decide +kernel) (lt_case (lt_case (lt_case (lt_case (lt_case (lt_case (lt_case (lt_case (lt_case (lt_case (lt_case (lt_case (lt_case (lt_case (lt_case (lt_case (lt_case (lt_case (lt_case (lt_case (lt_case (lt_case (lt_case (lt_case (lt_case (lt_case (lt_case (lt_case (lt_case (lt_case (lt_case (lt_case (lt_case (lt_case (lt_case (lt_case (lt_case (lt_case (lt_case (lt_case lt_zero ob_right_0) ob_right_1) ob_right_2) ob_right_3) ob_right_4) ob_right_5) ob_right_6) ob_right_7) ob_right_8) ob_right_9) ob_right_10) ob_right_11) ob_right_12) ob_right_13) ob_right_14) ob_right_15) ob_right_16) ob_right_17) ob_right_18) ob_right_19) ob_right_20) ob_right_21) ob_right_22) ob_right_23) ob_right_24) ob_right_25) ob_right_26) ob_right_27) ob_right_28) ob_right_29) ob_right_30) ob_right_31) ob_right_32) ob_right_33) ob_right_34) ob_right_35) ob_right_36) ob_right_37) ob_right_38) ob_right_39)
end X38
end
section
-- X38W
set_option Elab.async false
set_option linter.all false
set_option maxRecDepth 100000
set_option maxHeartbeats 0
namespace X38
open PySem Q
def subs : List Sb := [⟨53, [], 8⟩]
def ct_law : List Ct := [.dom [(2, [.tup [.tup [.tup [.int 0, .int 1]], .tup [.tup [.int 1, .int 1]], .tup [.tup [.int 2, .int 1]], .tup [.tup [.int 3, .int 1]], .tup [.tup [.int 4, .int 1]], .tup [.tup [.int 5, .int 1]], .tup [.tup [.int 6, .int 1]], .tup [.tup [.int 7, .int 1]], .tup [.tup [.int 8, .int 1]], .tup [.tup [.int 9, .int 1]], .tup [.tup [.int 10, .int 1]], .tup [.tup [.int 11, .int 1]], .tup [.tup [.int 12, .int 1]], .tup [.tup [.int 13, .int 1]], .tup [.tup [.int 14, .int 1]], .tup [.tup [.int 15, .int 1]], .tup [.tup [.int 16, .int 1]], .tup [.tup [.int 17, .int 1]], .tup [.tup [.int 18, .int 1]], .tup [.tup [.int 19, .int 1]], .tup [.tup [.int 20, .int 1]], .tup [.tup [.int 21, .int 1]], .tup [.tup [.int 22, .int 1]], .tup [.tup [.int 23, .int 1]], .tup [.tup [.int 24, .int 1]], .tup [.tup [.int 25, .int 1]], .tup [.tup [.int 26, .int 1]], .tup [.tup [.int 27, .int 1]], .tup [.tup [.int 28, .int 1]], .tup [.tup [.int 29, .int 1]], .tup [.tup [.int 30, .int 1]], .tup [.tup [.int 31, .int 1]], .tup [.tup [.int 32, .int 1]], .tup [.tup [.int 33, .int 1]], .tup [.tup [.int 34, .int 1]], .tup [.tup [.int 35, .int 1]], .tup [.tup [.int 36, .int 1]], .tup [.tup [.int 37, .int 1]], .tup [.tup [.int 38, .int 1]], .tup [.tup [.int 39, .int 1]], .tup [.tup [.int 40, .int 1]]]])],
  .keep,
  .keep,
  .dom [(4, [.fz [.non, .bl true, .int 0, .str "", .fz [], .fd, .tup [], .tup [.int 1], .tup [.tup [.int 1, .int 1]], .tup [.tup [.tup [.int 1, .int 1]], .non], .fz [.tup [.tup [.int 1, .int 1]]], .tup [.tup [.tup [.int 1, .int 1], .tup [.int 1, .int 1]]]]])],
  .dom [(5, [.fz (List.replicate 12 (.bl false))])]]
def os_law : List Obl × List Obl := (runL ⟨51, 50, 6⟩ 49 (none :: List.replicate (f54.fn.ns - 1) none) (cntOfS subs) b54 [] ct_law).getD ([.no], [.no])
theorem ob_calm_0 : ∀ u, (os_law.1.getD 0 .no).ok tab.ctx (evCall tab.ctx 39) ⟨51, 50, 6⟩ (none :: List.replicate (f54.fn.ns - 1) none) false (subOf subs) u = true := fun u => by kernel_rfl
theorem ob_calm_1 : ∀ u, (os_law.1.getD 1 .no).ok tab.ctx (evCall tab.ctx 39) ⟨51, 50, 6⟩ (none :: List.replicate (f54.fn.ns - 1) none) false (subOf subs) u = true := fun u => by kernel_rfl
theorem ob_live_0 : ∀ u, (os_law.2.getD 0 .no).ok tab.ctx (evCall tab.ctx 39) ⟨51, 50, 6⟩ (none :: List.replicate (f54.fn.ns - 1) none) true (subOf subs) u = true := fun u => by kernel_rfl
theorem al_calm : All tab.ctx (evCall tab.ctx 39) ⟨51, 50, 6⟩ (none :: List.replicate (f54.fn.ns - 1) none) false (subOf subs) os_law.1 := all_of (n := 2) (by decide +kernel) (lt_case (lt_case lt_zero ob_calm_0) ob_calm_1)
theorem al_live : All tab.ctx (evCall tab.ctx 39) ⟨51, 50, 6⟩ (none :: List.replicate (f54.fn.ns - 1) none) true (subOf subs) os_law.2 := all_of (n := 1) (by decide +kernel) (lt_case lt_zero ob_live_0)
theorem pk : tab.ctx.fns[51]? = some (F_law_pick 50) := rfl
theorem rl : tab.ctx.fns[50]? = some F_law_roll := rfl
theorem dc : tab.ctx.fns[49]? = some F_law_dice := rfl
theorem dok (dv : Nat) : DOk tab.ctx ⟨51, 50, dv⟩ := ⟨pk, roll_spec rl⟩
theorem run_right : runR ⟨51, 50, 0⟩ true f53.fn.body [] ct_right = some os_right := by kernel_rfl
theorem ok_right : (∀ j, Q.fill tab.ctx 53 (.ref j :: []) = some (.ref j :: [])) ∧ ∀ j c S, Drw tab.ctx j c S → c + 8 ≤ 1000000 → ∃ S', evCall tab.ctx (36 + 3) 53 (.ref j :: []) S = .ok (.v (.bl true)) S' ∧ Drw tab.ctx j (c + 8) S' := def_ok (n := 36) (cf := cntOfS []) (f := 53) (F := f53.fn) (m := 8) (dok 0) no_sub rfl rfl run_right al_right (by decide +kernel)
theorem sok : SubOk tab.ctx (evCall tab.ctx 39) (subOf subs) (cntOfS subs) := subs_ok (fun b hb => (List.mem_cons.mp hb).elim (fun e => by subst e; decide +kernel) fun hb => absurd hb (by simp)) (fun b hb => (List.mem_cons.mp hb).elim (fun e => by subst e; exact ok_right) fun hb => absurd hb (by simp))
theorem run_law : runL ⟨51, 50, 6⟩ 49 (none :: List.replicate (f54.fn.ns - 1) none) (cntOfS subs) f54.fn.body [] ct_law = some os_law := by kernel_rfl
theorem law_true (ns : List Int) (_ : ns.length ≤ 63) : ∃ S, Q.evCall tab.ctx 40 (Q.lawIx tab) [.fl (ns.map Q.D.int)] tab.ctx.tbls = .ok (.v (.bl true)) S :=
  law_by (n := 37) (lw := 54) (F := f54.fn) (dok 6) sok dc rfl rfl (by decide +kernel) run_law al_calm al_live ns
end X38
end
section
-- X38E
set_option Elab.async false
set_option linter.all false
set_option maxRecDepth 100000
open PySem PySem.W PyProof.Rows
set_option maxHeartbeats 0 in
theorem PySem.Challenge.cw_sightroads_k38_errors_of_lines_holds : PySem.Challenge.rw_sightroads_k38_errors_of_lines.Holds := by
  w_on; o_law; k_head; (case hw => w_witness2)
  k_fill
  refine Q.walk_at (l := PySem.Challenge.rw_sightroads_k38_errors_of_lines) (n := 63) (k := 41) (x := "script") (CX := fun w => L2.CX (PySem.Challenge.rw_sightroads_k38_errors_of_lines).prog w) rfl (by decide) rfl ⟨rfl, by decide, by decide⟩ (fun w h Y => PySem.W.km_in_of Y) ?F (fun _ _ _ _ _ h => Q.cx_no h)
  case F =>
    intro w mg fa h Y KX G hmg tabs
    have YT := PySem.W.km_tabs_of Y
    have t0 := Q.tab_at2 KX YT (y := "_law_widths_right") (by k_is) (by k_is) (by rfl) (by k_is) (by rfl) (by kernel_rfl) (by decide) (by kernel_rfl)
    have t1 := Q.tab_at2 KX YT (y := "_law_right") (by k_is) (by k_is) (by rfl) (by k_is) (by rfl) (by kernel_rfl) (by decide) (by kernel_rfl)
    have t2 := Q.tab_at2 KX YT (y := "law") (by k_is) (by k_is) (by rfl) (by k_is) (by rfl) (by kernel_rfl) (by decide) (by kernel_rfl)
    obtain ⟨cs, TT, ND⟩ := Q.tabs_ex KX (l := ["_law_widths_right", "_law_right", "law"]) (cs := [(_, _), (_, _), (_, _)]) ⟨t0, t1, t2, trivial⟩ (by decide)
    have E0 := Q.err_plain KX G (P := (PySem.Challenge.rw_sightroads_k38_errors_of_lines).prog) (x := "InvalidChances") (fld := "") PySem.F.excBase_ValueError (by k_is) (by kernel_rfl) (by k_is) (by k_is) (by k_is)
    have E1 := Q.err_plain KX G (P := (PySem.Challenge.rw_sightroads_k38_errors_of_lines).prog) (x := "InvalidLines") (fld := "") PySem.F.excBase_ValueError (by k_is) (by kernel_rfl) (by k_is) (by k_is) (by k_is)
    have E2 := Q.err_plain KX G (P := (PySem.Challenge.rw_sightroads_k38_errors_of_lines).prog) (x := "InvalidRow") (fld := "") PySem.F.excBase_ValueError (by k_is) (by kernel_rfl) (by k_is) (by k_is) (by k_is)
    have E3 := Q.err_plain KX G (P := (PySem.Challenge.rw_sightroads_k38_errors_of_lines).prog) (x := "InvalidFraction") (fld := "") PySem.F.excBase_ValueError (by k_is) (by kernel_rfl) (by k_is) (by k_is) (by k_is)
    have E4 := Q.err_plain KX G (P := (PySem.Challenge.rw_sightroads_k38_errors_of_lines).prog) (x := "InvalidOperation") (fld := "") PySem.F.excBase_ValueError (by k_is) (by kernel_rfl) (by k_is) (by k_is) (by k_is)
    have E5 := Q.err_kept KX G (P := (PySem.Challenge.rw_sightroads_k38_errors_of_lines).prog) (x := "InvalidCount") (fld := "given") (sf := "self") (v := "given") (st := X38.est5) PySem.F.excBase_IndexError PySem.W.kxs_IndexError PySem.F.store_IndexError (by k_is) (by kernel_rfl) (by kernel_rfl) (by k_is) (by k_is) (by k_is) (by k_is) (by k_is) (by rfl) (by kernel_rfl) (by k_is) (by k_is) (by kernel_rfl) (by k_is) (by kernel_rfl) (by k_is) (by k_is) (by k_is) (by k_is) (by k_is) (by k_is) (by k_is) (by k_is) ⟨_, _, _, _, _, _, _, _, _, by decide, rfl⟩ (.tail _ _ _ _ _ _ (by decide)) rfl rfl (fun kV doc pm an ct u0 u1 => X38.eb5 _ kV doc pm an _ ct u0 u1 _) (by kernel_rfl) (by kernel_rfl) (by kernel_rfl) (by kernel_rfl) (by kernel_rfl) (by kernel_rfl) (by kernel_rfl) (by kernel_rfl) (by decide) (by decide) (by decide)
    have E6 := Q.err_kept KX G (P := (PySem.Challenge.rw_sightroads_k38_errors_of_lines).prog) (x := "TooMany") (fld := "limit") (sf := "self") (v := "limit") (st := X38.est6) PySem.F.excBase_OverflowError PySem.W.kxs_OverflowError PySem.F.store_OverflowError (by k_is) (by kernel_rfl) (by kernel_rfl) (by k_is) (by k_is) (by k_is) (by k_is) (by k_is) (by rfl) (by kernel_rfl) (by k_is) (by k_is) (by kernel_rfl) (by k_is) (by kernel_rfl) (by k_is) (by k_is) (by k_is) (by k_is) (by k_is) (by k_is) (by k_is) (by k_is) ⟨_, _, _, _, _, _, _, _, _, by decide, rfl⟩ (.num (by decide) _ _ _ _ _ _ (by decide)) rfl rfl (fun kV doc pm an ct u0 u1 => X38.eb6 _ kV doc pm an _ ct u0 u1 _) (by kernel_rfl) (by kernel_rfl) (by kernel_rfl) (by kernel_rfl) (by kernel_rfl) (by kernel_rfl) (by kernel_rfl) (by kernel_rfl) (by decide) (by decide) (by decide)
    have E7 := Q.err_kept KX G (P := (PySem.Challenge.rw_sightroads_k38_errors_of_lines).prog) (x := "Refused") (fld := "reason") (sf := "self") (v := "reason") (st := X38.est7) PySem.F.excBase_ArithmeticError PySem.W.kxs_ArithmeticError PySem.F.store_ArithmeticError (by k_is) (by kernel_rfl) (by kernel_rfl) (by k_is) (by k_is) (by k_is) (by k_is) (by k_is) (by rfl) (by kernel_rfl) (by k_is) (by k_is) (by kernel_rfl) (by k_is) (by kernel_rfl) (by k_is) (by k_is) (by k_is) (by k_is) (by k_is) (by k_is) (by k_is) (by k_is) ⟨_, _, _, _, _, _, _, _, _, by decide, rfl⟩ (.const _ _ _) rfl rfl (fun kV doc pm an ct u0 u1 => X38.eb7 _ kV doc pm an _ ct u0 u1 _) (by kernel_rfl) (by kernel_rfl) (by kernel_rfl) (by kernel_rfl) (by kernel_rfl) (by kernel_rfl) (by kernel_rfl) (by kernel_rfl) (by decide) (by decide) (by decide)
    obtain ⟨as, EA, EX⟩ := Q.errs_ex KX (P := (PySem.Challenge.rw_sightroads_k38_errors_of_lines).prog) (mg := mg) (l := X38.errs) (as := [_, _, _, _, _, _, _, _]) ⟨⟨E0, fun z => by cases z⟩, ⟨E1, fun z => by cases z⟩, ⟨E2, fun z => by cases z⟩, ⟨E3, fun z => by cases z⟩, ⟨E4, fun z => by cases z⟩, ⟨E5, fun _ => ⟨L2.xfB_ok (by kernel_rfl), by k_is⟩⟩, ⟨E6, fun _ => ⟨L2.xfB_ok (by kernel_rfl), by k_is⟩⟩, ⟨E7, fun _ => ⟨L2.xfB_ok (by kernel_rfl), by k_is⟩⟩, trivial⟩ (by kernel_rfl)
    have F0 := Q.fat_mk KX G (T := X38.tab) (cs := cs) (d := X38.f0) (st := X38.st 0) (x := "is_integer") (y := "is_integer") rfl rfl (by k_is) (by k_is) (by k_is) (by k_is) rfl (fun z => absurd z (by decide)) X38.a0
    have F1 := Q.fat_mk KX G (T := X38.tab) (cs := cs) (d := X38.f1) (st := X38.st 1) (x := "common_divisor") (y := "common_divisor") rfl rfl (by k_is) (by k_is) (by k_is) (by k_is) rfl (fun z => absurd z (by decide)) X38.a1
    have F2 := Q.fat_mk KX G (T := X38.tab) (cs := cs) (d := X38.f2) (st := X38.st 2) (x := "is_number") (y := "is_number") rfl rfl (by k_is) (by k_is) (by k_is) (by k_is) rfl (fun z => absurd z (by decide)) X38.a2
    have F3 := Q.fat_mk KX G (T := X38.tab) (cs := cs) (d := X38.f3) (st := X38.st 3) (x := "reduced") (y := "reduced") rfl rfl (by k_is) (by k_is) (by k_is) (by k_is) rfl (fun z => absurd z (by decide)) X38.a3
    have F4 := Q.fat_mk KX G (T := X38.tab) (cs := cs) (d := X38.f4) (st := X38.st 4) (x := "require_number") (y := "require_number") rfl rfl (by k_is) (by k_is) (by k_is) (by k_is) rfl (fun z => absurd z (by decide)) X38.a4
    have F5 := Q.fat_mkD KX G (T := X38.tab) (cs := cs) (d := X38.f5) (st := X38.st 5) (x := "require_count") (y := "require_count") (is := [0, 60]) rfl rfl (by k_is) (by k_is) (by k_is) (by k_is) (by k_is) rfl (by repeat constructor) (by decide) (by decide) (fun z => absurd z (by decide)) X38.a5
    have F6 := Q.fat_mk KX G (T := X38.tab) (cs := cs) (d := X38.f6) (st := X38.st 6) (x := "added") (y := "added") rfl rfl (by k_is) (by k_is) (by k_is) (by k_is) rfl (fun z => absurd z (by decide)) X38.a6
    have F7 := Q.fat_mk KX G (T := X38.tab) (cs := cs) (d := X38.f7) (st := X38.st 7) (x := "multiplied") (y := "multiplied") rfl rfl (by k_is) (by k_is) (by k_is) (by k_is) rfl (fun z => absurd z (by decide)) X38.a7
    have F8 := Q.fat_mk KX G (T := X38.tab) (cs := cs) (d := X38.f8) (st := X38.st 8) (x := "opposite") (y := "opposite") rfl rfl (by k_is) (by k_is) (by k_is) (by k_is) rfl (fun z => absurd z (by decide)) X38.a8
    have F9 := Q.fat_mk KX G (T := X38.tab) (cs := cs) (d := X38.f9) (st := X38.st 9) (x := "sum_of") (y := "sum_of") rfl rfl (by k_is) (by k_is) (by k_is) (by k_is) rfl (fun z => absurd z (by decide)) X38.a9
    have F10 := Q.fat_mk KX G (T := X38.tab) (cs := cs) (d := X38.f10) (st := X38.st 10) (x := "is_plain_row") (y := "is_plain_row") rfl rfl (by k_is) (by k_is) (by k_is) (by k_is) rfl (fun z => absurd z (by decide)) X38.a10
    have F11 := Q.fat_mk KX G (T := X38.tab) (cs := cs) (d := X38.f11) (st := X38.st 11) (x := "rest_row") (y := "rest_row") rfl rfl (by k_is) (by k_is) (by k_is) (by k_is) rfl (fun z => absurd z (by decide)) X38.a11
    have F12 := Q.fat_mk KX G (T := X38.tab) (cs := cs) (d := X38.f12) (st := X38.st 12) (x := "sum_of_rows") (y := "sum_of_rows") rfl rfl (by k_is) (by k_is) (by k_is) (by k_is) rfl (fun z => absurd z (by decide)) X38.a12
    have F13 := Q.fat_mk KX G (T := X38.tab) (cs := cs) (d := X38.f13) (st := X38.st 13) (x := "times_row") (y := "times_row") rfl rfl (by k_is) (by k_is) (by k_is) (by k_is) rfl (fun z => absurd z (by decide)) X38.a13
    have F14 := Q.fat_mk KX G (T := X38.tab) (cs := cs) (d := X38.f14) (st := X38.st 14) (x := "less_times") (y := "less_times") rfl rfl (by k_is) (by k_is) (by k_is) (by k_is) rfl (fun z => absurd z (by decide)) X38.a14
    have F15 := Q.fat_mk KX G (T := X38.tab) (cs := cs) (d := X38.f15) (st := X38.st 15) (x := "difference_of") (y := "difference_of") rfl rfl (by k_is) (by k_is) (by k_is) (by k_is) rfl (fun z => absurd z (by decide)) X38.a15
    have F16 := Q.fat_mk KX G (T := X38.tab) (cs := cs) (d := X38.f16) (st := X38.st 16) (x := "product_of") (y := "product_of") rfl rfl (by k_is) (by k_is) (by k_is) (by k_is) rfl (fun z => absurd z (by decide)) X38.a16
    have F17 := Q.fat_mk KX G (T := X38.tab) (cs := cs) (d := X38.f17) (st := X38.st 17) (x := "led_told") (y := "led_told") rfl rfl (by k_is) (by k_is) (by k_is) (by k_is) rfl (fun z => absurd z (by decide)) X38.a17
    have F18 := Q.fat_mk KX G (T := X38.tab) (cs := cs) (d := X38.f18) (st := X38.st 18) (x := "are_from_nought") (y := "are_from_nought") rfl rfl (by k_is) (by k_is) (by k_is) (by k_is) rfl (fun z => absurd z (by decide)) X38.a18
    have F19 := Q.fat_mk KX G (T := X38.tab) (cs := cs) (d := X38.f19) (st := X38.st 19) (x := "does_reach") (y := "does_reach") rfl rfl (by k_is) (by k_is) (by k_is) (by k_is) rfl (fun z => absurd z (by decide)) X38.a19
    have F20 := Q.fat_mk KX G (T := X38.tab) (cs := cs) (d := X38.f20) (st := X38.st 20) (x := "is_plain_mix") (y := "is_plain_mix") rfl rfl (by k_is) (by k_is) (by k_is) (by k_is) rfl (fun z => absurd z (by decide)) X38.a20
    have F21 := Q.fat_mk KX G (T := X38.tab) (cs := cs) (d := X38.f21) (st := X38.st 21) (x := "require_width") (y := "require_width") rfl rfl (by k_is) (by k_is) (by k_is) (by k_is) rfl (fun z => absurd z (by decide)) X38.a21
    have F22 := Q.fat_mk KX G (T := X38.tab) (cs := cs) (d := X38.f22) (st := X38.st 22) (x := "is_plain_chances") (y := "is_plain_chances") rfl rfl (by k_is) (by k_is) (by k_is) (by k_is) rfl (fun z => absurd z (by decide)) X38.a22
    have F23 := Q.fat_mk KX G (T := X38.tab) (cs := cs) (d := X38.f23) (st := X38.st 23) (x := "require_chances") (y := "require_chances") rfl rfl (by k_is) (by k_is) (by k_is) (by k_is) rfl (fun z => absurd z (by decide)) X38.a23
    have F24 := Q.fat_mk KX G (T := X38.tab) (cs := cs) (d := X38.f24) (st := X38.st 24) (x := "require_line") (y := "require_line") rfl rfl (by k_is) (by k_is) (by k_is) (by k_is) rfl (fun z => absurd z (by decide)) X38.a24
    have F25 := Q.fat_mk KX G (T := X38.tab) (cs := cs) (d := X38.f25) (st := X38.st 25) (x := "is_less") (y := "is_less") rfl rfl (by k_is) (by k_is) (by k_is) (by k_is) rfl (fun z => absurd z (by decide)) X38.a25
    have F26 := Q.fat_mk KX G (T := X38.tab) (cs := cs) (d := X38.f26) (st := X38.st 26) (x := "is_plain_lines") (y := "is_plain_lines") rfl rfl (by k_is) (by k_is) (by k_is) (by k_is) rfl (fun z => absurd z (by decide)) X38.a26
    have F27 := Q.fat_mk KX G (T := X38.tab) (cs := cs) (d := X38.f27) (st := X38.st 27) (x := "require_lines") (y := "require_lines") rfl rfl (by k_is) (by k_is) (by k_is) (by k_is) rfl (fun z => absurd z (by decide)) X38.a27
    have F28 := Q.fat_mk KX G (T := X38.tab) (cs := cs) (d := X38.f28) (st := X38.st 28) (x := "require_lined") (y := "require_lined") rfl rfl (by k_is) (by k_is) (by k_is) (by k_is) rfl (fun z => absurd z (by decide)) X38.a28
    have F29 := Q.fat_mk KX G (T := X38.tab) (cs := cs) (d := X38.f29) (st := X38.st 29) (x := "top_mean") (y := "top_mean") rfl rfl (by k_is) (by k_is) (by k_is) (by k_is) rfl (fun z => absurd z (by decide)) X38.a29
    have F30 := Q.fat_mk KX G (T := X38.tab) (cs := cs) (d := X38.f30) (st := X38.st 30) (x := "best_by") (y := "best_by") rfl rfl (by k_is) (by k_is) (by k_is) (by k_is) rfl (fun z => absurd z (by decide)) X38.a30
    have F31 := Q.fat_mk KX G (T := X38.tab) (cs := cs) (d := X38.f31) (st := X38.st 31) (x := "is_above_by") (y := "is_above_by") rfl rfl (by k_is) (by k_is) (by k_is) (by k_is) rfl (fun z => absurd z (by decide)) X38.a31
    have F32 := Q.fat_mk KX G (T := X38.tab) (cs := cs) (d := X38.f32) (st := X38.st 32) (x := "mixed_by") (y := "mixed_by") rfl rfl (by k_is) (by k_is) (by k_is) (by k_is) rfl (fun z => absurd z (by decide)) X38.a32
    have F33 := Q.fat_mk KX G (T := X38.tab) (cs := cs) (d := X38.f33) (st := X38.st 33) (x := "ones_of") (y := "ones_of") rfl rfl (by k_is) (by k_is) (by k_is) (by k_is) rfl (fun z => absurd z (by decide)) X38.a33
    have F34 := Q.fat_mk KX G (T := X38.tab) (cs := cs) (d := X38.f34) (st := X38.st 34) (x := "top_by") (y := "top_by") rfl rfl (by k_is) (by k_is) (by k_is) (by k_is) rfl (fun z => absurd z (by decide)) X38.a34
    have F35 := Q.fat_mk KX G (T := X38.tab) (cs := cs) (d := X38.f35) (st := X38.st 35) (x := "is_lines") (y := "is_lines") rfl rfl (by k_is) (by k_is) (by k_is) (by k_is) rfl (fun z => absurd z (by decide)) X38.a35
    have F36 := Q.fat_mk KX G (T := X38.tab) (cs := cs) (d := X38.f36) (st := X38.st 36) (x := "greatest") (y := "greatest") rfl rfl (by k_is) (by k_is) (by k_is) (by k_is) rfl (fun z => absurd z (by decide)) X38.a36
    have F37 := Q.fat_mk KX G (T := X38.tab) (cs := cs) (d := X38.f37) (st := X38.st 37) (x := "best_lines") (y := "best_lines") rfl rfl (by k_is) (by k_is) (by k_is) (by k_is) rfl (fun z => absurd z (by decide)) X38.a37
    have F38 := Q.fat_mk KX G (T := X38.tab) (cs := cs) (d := X38.f38) (st := X38.st 38) (x := "is_above") (y := "is_above") rfl rfl (by k_is) (by k_is) (by k_is) (by k_is) rfl (fun z => absurd z (by decide)) X38.a38
    have F39 := Q.fat_mk KX G (T := X38.tab) (cs := cs) (d := X38.f39) (st := X38.st 39) (x := "top_lines") (y := "top_lines") rfl rfl (by k_is) (by k_is) (by k_is) (by k_is) rfl (fun z => absurd z (by decide)) X38.a39
    have F40 := Q.fat_mk KX G (T := X38.tab) (cs := cs) (d := X38.f40) (st := X38.st 40) (x := "lifted_by") (y := "lifted_by") rfl rfl (by k_is) (by k_is) (by k_is) (by k_is) rfl (fun z => absurd z (by decide)) X38.a40
    have F41 := Q.fat_mk KX G (T := X38.tab) (cs := cs) (d := X38.f41) (st := X38.st 41) (x := "lifted") (y := "lifted") rfl rfl (by k_is) (by k_is) (by k_is) (by k_is) rfl (fun z => absurd z (by decide)) X38.a41
    have F42 := Q.fat_mk KX G (T := X38.tab) (cs := cs) (d := X38.f42) (st := X38.st 42) (x := "scaled") (y := "scaled") rfl rfl (by k_is) (by k_is) (by k_is) (by k_is) rfl (fun z => absurd z (by decide)) X38.a42
    have F43 := Q.fat_mk KX G (T := X38.tab) (cs := cs) (d := X38.f43) (st := X38.st 43) (x := "least_of_row") (y := "least_of_row") rfl rfl (by k_is) (by k_is) (by k_is) (by k_is) rfl (fun z => absurd z (by decide)) X38.a43
    have F44 := Q.fat_mk KX G (T := X38.tab) (cs := cs) (d := X38.f44) (st := X38.st 44) (x := "greatest_of_row") (y := "greatest_of_row") rfl rfl (by k_is) (by k_is) (by k_is) (by k_is) rfl (fun z => absurd z (by decide)) X38.a44
    have F45 := Q.fat_mk KX G (T := X38.tab) (cs := cs) (d := X38.f45) (st := X38.st 45) (x := "least_number") (y := "least_number") rfl rfl (by k_is) (by k_is) (by k_is) (by k_is) rfl (fun z => absurd z (by decide)) X38.a45
    have F46 := Q.fat_mk KX G (T := X38.tab) (cs := cs) (d := X38.f46) (st := X38.st 46) (x := "greatest_number") (y := "greatest_number") rfl rfl (by k_is) (by k_is) (by k_is) (by k_is) rfl (fun z => absurd z (by decide)) X38.a46
    have F47 := Q.fat_mk KX G (T := X38.tab) (cs := cs) (d := X38.f47) (st := X38.st 47) (x := "mixed") (y := "mixed") rfl rfl (by k_is) (by k_is) (by k_is) (by k_is) rfl (fun z => absurd z (by decide)) X38.a47
    have F48 := Q.fat_mk KX G (T := X38.tab) (cs := cs) (d := X38.f48) (st := X38.st 48) (x := "one_lines") (y := "one_lines") rfl rfl (by k_is) (by k_is) (by k_is) (by k_is) rfl (fun z => absurd z (by decide)) X38.a48
    have F49 := Q.fat_mk KX G (T := X38.tab) (cs := cs) (d := X38.f49) (st := X38.st 49) (x := "_law_dice") (y := "_law_dice") rfl rfl (by k_is) (by k_is) (by k_is) (by k_is) rfl (fun z => absurd z (by decide)) X38.a49
    have F50 := Q.fat_mk KX G (T := X38.tab) (cs := cs) (d := X38.f50) (st := X38.st 50) (x := "_law_roll") (y := "_law_roll") rfl rfl (by k_is) (by k_is) (by k_is) (by k_is) rfl (fun z => absurd z (by decide)) X38.a50
    have F51 := Q.fat_mk KX G (T := X38.tab) (cs := cs) (d := X38.f51) (st := X38.st 51) (x := "_law_pick") (y := "_law_pick") rfl rfl (by k_is) (by k_is) (by k_is) (by k_is) rfl (fun z => absurd z (by decide)) X38.a51
    have F52 := Q.fat_mk KX G (T := X38.tab) (cs := cs) (d := X38.f52) (st := X38.st 52) (x := "_law_widths_right") (y := "_law_widths_right") rfl rfl (by k_is) (by k_is) (by k_is) (by k_is) rfl (fun _ => (TT.get 0 "_law_widths_right" rfl).elim fun p z => ⟨p, z.1, Q.tab_code (y := "_law_widths_right") (by k_is) (by k_is) (by rfl) z.2⟩) X38.a52
    have F53 := Q.fat_mk KX G (T := X38.tab) (cs := cs) (d := X38.f53) (st := X38.st 53) (x := "_law_right") (y := "_law_right") rfl rfl (by k_is) (by k_is) (by k_is) (by k_is) rfl (fun _ => (TT.get 1 "_law_right" rfl).elim fun p z => ⟨p, z.1, Q.tab_code (y := "_law_right") (by k_is) (by k_is) (by rfl) z.2⟩) X38.a53
    have F54 := Q.fat_mk KX G (T := X38.tab) (cs := cs) (d := X38.f54) (st := X38.st 54) (x := "law") (y := "law") rfl rfl (by k_is) (by k_is) (by k_is) (by k_is) rfl (fun _ => (TT.get 2 "law" rfl).elim fun p z => ⟨p, z.1, Q.tab_code (y := "law") (by k_is) (by k_is) (by rfl) z.2⟩) X38.a54
    have G0 := Q.g_tup KX G (x := "NOUGHT") (is := [0, 1]) (by k_is) (by k_is) (by decide) (by repeat constructor)
    have G1 := Q.g_tup KX G (x := "ONE") (is := [1, 1]) (by k_is) (by k_is) (by decide) (by repeat constructor)
    have G2 := Q.g_int KX G (x := "MAX_WIDTH") (i := 8) (by k_is)
    have G3 := Q.g_int KX G (x := "MAX_LINES") (i := 40) (by k_is)
    have G4 := Q.g_str KX G (x := "NOTHING") (y := "nought") (by k_is)
    have B0 : mg "len" = none := PySem.W.mg_none_of KX G (by k_is)
    have B1 : mg "abs" = none := PySem.W.mg_none_of KX G (by k_is)
    have B2 : mg "int" = none := PySem.W.mg_none_of KX G (by k_is)
    have B3 : mg "bool" = none := PySem.W.mg_none_of KX G (by k_is)
    have B4 : mg "all" = none := PySem.W.mg_none_of KX G (by k_is)
    have B5 : mg "any" = none := PySem.W.mg_none_of KX G (by k_is)
    have B6 : mg "tuple" = none := PySem.W.mg_none_of KX G (by k_is)
    have B7 : mg "list" = none := PySem.W.mg_none_of KX G (by k_is)
    have B8 : mg "repr" = none := PySem.W.mg_none_of KX G (by k_is)
    have B9 : mg "sorted" = none := PySem.W.mg_none_of KX G (by k_is)
    have B10 : mg "min" = none := PySem.W.mg_none_of KX G (by k_is)
    have B11 : mg "max" = none := PySem.W.mg_none_of KX G (by k_is)
    have B12 : mg "divmod" = none := PySem.W.mg_none_of KX G (by k_is)
    have B13 : mg "str" = none := PySem.W.mg_none_of KX G (by k_is)
    have B14 : mg "dict" = none := PySem.W.mg_none_of KX G (by k_is)
    have B15 : mg "isinstance" = none := PySem.W.mg_none_of KX G (by k_is)
    have B16 : mg "range" = none := PySem.W.mg_none_of KX G (by k_is)
    have B17 : mg "zip" = none := PySem.W.mg_none_of KX G (by k_is)
    have B18 : mg "enumerate" = none := PySem.W.mg_none_of KX G (by k_is)
    have W0 := Q.wrd_mk KX G (cs := cs) (w := ⟨[⟨0, "chances", false⟩, ⟨1, "lines", false⟩, ⟨2, "row", false⟩, ⟨3, "number", false⟩, ⟨4, "operation", false⟩, ⟨5, "count ", true⟩, ⟨6, "many ", true⟩, ⟨7, "refused ", true⟩], "fine"⟩) (gname := "_law_word") (a := "call") (nm := "error") (Ng := ["call", "error"]) (ei := 1) (st := X38.wst0) EA EX (by decide) (by k_is) (by k_is) (by k_is) (by k_is) X38.wb0 (Q.sc_by (by kernel_rfl)) ⟨_, _, _, _, _, _, _, rfl⟩ (.plain (by kernel_rfl) (by decide) (EA.at 0 _ _ _ rfl).1.1 (.plain (by kernel_rfl) (by decide) (EA.at 1 _ _ _ rfl).1.1 (.plain (by kernel_rfl) (by decide) (EA.at 2 _ _ _ rfl).1.1 (.plain (by kernel_rfl) (by decide) (EA.at 3 _ _ _ rfl).1.1 (.plain (by kernel_rfl) (by decide) (EA.at 4 _ _ _ rfl).1.1 (.rep (by kernel_rfl) (by decide) (EA.at 5 _ _ _ rfl).1.1 ((EA.at 5 _ _ _ rfl).2.2 rfl).1 (EA.at 5 _ _ _ rfl).2.1.symm ((EA.at 5 _ _ _ rfl).2.2 rfl).2 (.rep (by kernel_rfl) (by decide) (EA.at 6 _ _ _ rfl).1.1 ((EA.at 6 _ _ _ rfl).2.2 rfl).1 (EA.at 6 _ _ _ rfl).2.1.symm ((EA.at 6 _ _ _ rfl).2.2 rfl).2 (.rep (by kernel_rfl) (by decide) (EA.at 7 _ _ _ rfl).1.1 ((EA.at 7 _ _ _ rfl).2.2 rfl).1 (EA.at 7 _ _ _ rfl).2.1.symm ((EA.at 7 _ _ _ rfl).2.2 rfl).2 .nil)))))))) rfl (.inl (by kernel_rfl)) (by decide) (by decide) rfl (by kernel_rfl) (by decide) (by decide) (by kernel_rfl) B8
    have tok := Q.tok_of (P := (PySem.Challenge.rw_sightroads_k38_errors_of_lines).prog) (T := X38.tab) (st := X38.st) (tb := Q.tbOf X38.errs as) (cs := cs) ⟨⟨X38.o0, F0⟩, ⟨X38.o1, F1⟩, ⟨X38.o2, F2⟩, ⟨X38.o3, F3⟩, ⟨X38.o4, F4⟩, ⟨X38.o5, F5⟩, ⟨X38.o6, F6⟩, ⟨X38.o7, F7⟩, ⟨X38.o8, F8⟩, ⟨X38.o9, F9⟩, ⟨X38.o10, F10⟩, ⟨X38.o11, F11⟩, ⟨X38.o12, F12⟩, ⟨X38.o13, F13⟩, ⟨X38.o14, F14⟩, ⟨X38.o15, F15⟩, ⟨X38.o16, F16⟩, ⟨X38.o17, F17⟩, ⟨X38.o18, F18⟩, ⟨X38.o19, F19⟩, ⟨X38.o20, F20⟩, ⟨X38.o21, F21⟩, ⟨X38.o22, F22⟩, ⟨X38.o23, F23⟩, ⟨X38.o24, F24⟩, ⟨X38.o25, F25⟩, ⟨X38.o26, F26⟩, ⟨X38.o27, F27⟩, ⟨X38.o28, F28⟩, ⟨X38.o29, F29⟩, ⟨X38.o30, F30⟩, ⟨X38.o31, F31⟩, ⟨X38.o32, F32⟩, ⟨X38.o33, F33⟩, ⟨X38.o34, F34⟩, ⟨X38.o35, F35⟩, ⟨X38.o36, F36⟩, ⟨X38.o37, F37⟩, ⟨X38.o38, F38⟩, ⟨X38.o39, F39⟩, ⟨X38.o40, F40⟩, ⟨X38.o41, F41⟩, ⟨X38.o42, F42⟩, ⟨X38.o43, F43⟩, ⟨X38.o44, F44⟩, ⟨X38.o45, F45⟩, ⟨X38.o46, F46⟩, ⟨X38.o47, F47⟩, ⟨X38.o48, F48⟩, ⟨X38.o49, F49⟩, ⟨X38.o50, F50⟩, ⟨X38.o51, F51⟩, ⟨X38.o52, F52⟩, ⟨X38.o53, F53⟩, ⟨X38.o54, F54⟩, trivial⟩ ⟨G0, G1, G2, G3, G4, trivial⟩ ⟨B0, B1, B2, B3, B4, B5, B6, B7, B8, B9, B10, B11, B12, B13, B14, B15, B16, B17, B18, trivial⟩ EA.all (Q.one_of ⟨_, _, _, _, _, _, _, _, W0⟩) TT.len (Q.tb_exi _ _)
    have FL := Q.law_at KX G (T := X38.tab) (cs := cs) (x := "law") (y := "script") (d := X38.f54) (st := X38.st 54) hmg rfl rfl (by k_is) (by k_is) (by k_is) (by k_is) rfl (fun _ => (TT.get 2 "law" rfl).elim fun p z => ⟨p, z.1, Q.tab_code (y := "law") (by k_is) (by k_is) (by rfl) z.2⟩) X38.a54 rfl
    obtain ⟨fd, FL, hb⟩ := FL
    exact ⟨fd, cs, Q.spC (Q.RXb X38.tab.excs.length (Q.tbOf X38.errs as) cs) _ (Q.evCall X38.tab.ctx 40) 54, fun p hp => (TT.mem p hp).2.2, fun p hp => (TT.mem p hp).1, fun p hp => (TT.mem p hp).2.1, hb, fun H a xs hl ht hs hn => (fun ⟨S, e⟩ => Q.script_sp (qs := X38.tab.tbls) rfl TT.len ND ht hs hn e) (X38.law_true xs hl), fun base hT => Q.law_fn (n := 40) (f := 54) tok rfl FL rfl base hT⟩
end
