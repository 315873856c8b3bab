import PyProof.Rows.All
import Wide.All
import OpenK.AllK
import Wide.FinOn
import HandS.ForMost
import HandS.ForExc
import HandS.Flow
import HandS.TupAny
import HandS.TupMul
import HandS.IsInst
import HandS.Wide
import HandS.Walk
import HandS.Zip
import HandS.Style
import HandS.CallSlots
import KE.GoesEnum
import HandS.Ends
import HandS.Defaults
import PySem.Challenge.RW_sightroads_k35_whole_chances
section
-- Ev
set_option linter.all false
/-! Q: a small evaluator of the part of Python that these texts are written in. -/
namespace Q
open PySem

/-- values: trees; a list, a dict is a place of the store -/
inductive D where
  | non
  | bl (b : Bool)
  | int (i : Int)
  | str (x : Str)
  | tup (ds : List D)
  | ref (n : Nat)
  /-- a list that is never written (what the law is given) -/
  | fl (ds : List D)
deriving Inhabited
inductive Cell where
  | lst (ds : List D)
  | dct (kvs : List (D × D))
deriving Inhabited
abbrev Store := List Cell
abbrev Env := List (Option D)
/-- what an expression gives: a value, or a list that nobody else holds -/
inductive R where
  | v (d : D)
  | t (ds : List D)
deriving Inhabited
structure Exn where
  cls : Nat
  val : Option D
deriving Inhabited
inductive Res (α : Type) where
  | ok (a : α) (S : Store)
  | err (x : Exn) (S : Store)
  | bad
deriving Inhabited
def Res.bind {α β : Type} (r : Res α) (f : α → Store → Res β) : Res β :=
  match r with
  | .ok a S => f a S
  | .err x S => .err x S
  | .bad => .bad
@[simp] theorem Res.bind_ok {α β : Type} (a : α) (S : Store) (f : α → Store → Res β) : (Res.ok a S).bind f = f a S := rfl
@[simp] theorem Res.bind_err {α β : Type} (x : Exn) (S : Store) (f : α → Store → Res β) : (Res.err x S : Res α).bind f = .err x S := rfl
@[simp] theorem Res.bind_bad {α β : Type} (f : α → Store → Res β) : (Res.bad : Res α).bind f = .bad := rfl
/-- within a comprehension nothing may be raised -/
def calm {α : Type} (r : Res α) : Res α := match r with
  | .ok a S => .ok a S
  | _ => .bad
@[simp] theorem calm_ok {α : Type} (a : α) (S : Store) : calm (Res.ok a S) = .ok a S := rfl
/-- a partial result -/
def opt {α β : Type} (o : Option α) (f : α → Res β) : Res β := match o with | some a => f a | none => .bad
@[simp] theorem opt_some {α β : Type} (a : α) (f : α → Res β) : opt (some a) f = f a := rfl
@[simp] theorem opt_none {α β : Type} (f : α → Res β) : opt none f = .bad := rfl

def szl : Nat := 16777216
/-- what the int rules ask for -/
def mulOk (i j : Int) : Bool := Nat.blt (i.natAbs.log2 + j.natAbs.log2) 1000000
def divOk (j : Int) : Bool := Nat.blt j.natAbs.log2 9000 && !(j == 0)

inductive Bi1 where | len | abs | int | bool | all | any | tuple | list | repr
inductive Bi2 where | min | max | divmod
inductive Mth where | append
inductive Ty where | int | bool | str | tuple | list | dict
deriving DecidableEq

mutual
inductive E where
  | non | bl (b : Bool) | int (i : Int) | str (x : Str)
  | var (i : Nat) | glb (j : Nat)
  | tup (es : Es) | lst (es : Es)
  | bin (o : Operator) (a b : E)
  | neg (a : E) | not (a : E)
  | cmp (o : CmpOp) (a b : E) | chn (o o' : CmpOp) (a b c : E)
  | bop (o : BoolOp) (es : Es)
  | ife (c a b : E)
  | idx (a i : E) | slc (a : E) (lo hi : Eo) | rev (a : E)
  | call (f : Nat) (es : Es)
  | bi1 (b : Bi1) (a : E) | bi2 (b : Bi2) (a c : E)
  | isi (a : E) (ts : Ty) | isiT (a : E) (ts : List Ty)
  | met (m : Mth) (o a : E)
  | dct0
  | lc (elt : E) (tg : T) (it : It) (c : Eo) (k : Nat)
inductive Es where
  | nil | cons (e : E) (r : Es)
inductive Eo where
  | no | so (e : E)
inductive T where
  | nm (i : Nat) | tp (ts : Ts) | sb (o i : E)
inductive Ts where
  | nil | cons (t : T) (r : Ts)
inductive It where
  | seq (e : E) | rng1 (a : E) | rng2 (a b : E) | zip (a b : E) | enum (a : E)
end
mutual
inductive S where
  | asg (t : T) (e : E)
  | par2 (i j : Nat) (a b : E) | par3 (i j k : Nat) (a b c : E)
  | aug (i : Nat) (o : Operator) (e : E)
  | expr (e : E)
  | ife (c : E) (a b : Ss)
  | whl (c : E) (b : Ss)
  | for (t : T) (it : It) (b : Ss)
  | ret (e : E) | ret0
  | pass | brk | cont
  /-- a statement that is never reached -/
  | hole (k : Nat)
inductive Ss where
  | nil | cons (s : S) (r : Ss)
end

def Ts.len : Ts → Nat
  | .nil => 0
  | .cons _ r => r.len + 1
def Es.len : Es → Nat
  | .nil => 0
  | .cons _ r => r.len + 1
/-! ### data -/
/-- a value as data of the library (lists read in the store) -/
def D.py (S : Store) : Nat → D → Option PyData
  | 0, _ => none
  | f + 1, d => match d with
    | .non => some .none
    | .bl b => some (.bool b)
    | .int i => some (.int i)
    | .str x => some (.str x)
    | .tup ds => (ds.mapM (D.py S f)).map .tuple
    | .ref n => match S[n]? with
      | some (.lst ds) => (ds.mapM (D.py S f)).map .list
      | _ => none
    | .fl _ => none
def R.py (S : Store) : R → Option PyData
  | .v d => d.py S 66
  | .t ds => (ds.mapM (D.py S 65)).map .list
def eqR (S : Store) (a b : R) : Option Bool := match a.py S, b.py S with
  | some x, some y => if SeqAt.shaped x && SeqAt.shaped y then some (PyData.eqv x y) else none
  | _, _ => none
/-- all refs lie below n -/
def lowD (n : Nat) : Nat → D → Bool
  | 0, _ => false
  | f + 1, d => match d with
    | .tup ds => ds.all (lowD n f)
    | .fl ds => ds.all (lowD n f)
    | .ref m => Nat.blt m n
    | _ => true
def lowC (n : Nat) : Cell → Bool
  | .lst ds => ds.all (lowD n 66)
  | .dct kvs => kvs.all fun p => lowD n 66 p.1 && lowD n 66 p.2

def truth (S : Store) : R → Option Bool
  | .t ds => some !ds.isEmpty
  | .v d => match d with
    | .non => some false
    | .bl b => some b
    | .int i => some (i != 0)
    | .str x => if Nat.ble x.length szl then some ((x.length : Int) != 0) else none
    | .tup ds => some !ds.isEmpty
    | .ref n => match S[n]? with
      | some (.lst ds) => some !ds.isEmpty
      | _ => none
    | .fl _ => none
def settle (r : R) (S : Store) (f : D → Store → Res α) : Res α := match r with
  | .v d => f d S
  | .t ds => f (.ref S.length) (S ++ [.lst ds])
/-- a list or tuple that can be read -/
def seqOf (S : Store) : R → Option (Bool × List D)
  | .t ds => some (false, ds)
  | .v d => match d with
    | .tup ds => some (true, ds)
    | .ref n => match S[n]? with
      | some (.lst ds) => some (false, ds)
      | _ => none
    | _ => none
/-- a[i] -/
def atD (ds : List D) (i : Int) : Option D := L2.atI ds i
/-- where an index lies -/
def ixD (n : Nat) (i : Int) : Option Nat := L2.ixN n i
def flat : D → Bool
  | .tup _ => false
  | .ref _ => false
  | .fl _ => false
  | _ => true
def V.of : D → L2.V
  | .non => .non
  | .bl b => .bl b
  | .int i => .int i
  | .str x => .str x
  | _ => .non
def evBin (o : Operator) (S : Store) (a b : R) : Res R := match o with
  | .Add => match a, b with
    | .v (.int i), .v (.int j) => .ok (.v (.int (i + j))) S
    | .v (.str x), .v (.str y) => if Nat.ble (x.length + y.length) szl then .ok (.v (.str (x ++ y))) S else .bad
    | .v (.tup x), .v (.tup y) => if Nat.ble (x.length + y.length) szl then .ok (.v (.tup (x ++ y))) S else .bad
    | a, b => match seqOf S a, seqOf S b with
      | some (false, x), some (false, y) => if Nat.ble (x.length + y.length) szl then .ok (.t (x ++ y)) S else .bad
      | _, _ => .bad
  | .Sub => match a, b with
    | .v (.int i), .v (.int j) => .ok (.v (.int (i - j))) S
    | _, _ => .bad
  | .Mult => match a, b with
    | .v (.int i), .v (.int j) => if mulOk i j then .ok (.v (.int (i * j))) S else .bad
    | .v (.tup x), .v (.int k) => if Nat.ble x.length 1000 && decide (k ≤ 1000) && decide (0 ≤ k) then .ok (.v (.tup (List.replicate k.toNat x).flatten)) S else .bad
    | a, .v (.int k) => match seqOf S a with
      | some (false, x) => if Nat.ble x.length 1000 && decide (k ≤ 1000) && decide (0 ≤ k) then .ok (.t (List.replicate k.toNat x).flatten) S else .bad
      | _ => .bad
    | _, _ => .bad
  | .FloorDiv => match a, b with
    | .v (.int i), .v (.int j) => if divOk j then .ok (.v (.int (i.fdiv j))) S else .bad
    | _, _ => .bad
  | .Mod => match a, b with
    | .v (.int i), .v (.int j) => if j == 0 then .bad else .ok (.v (.int (i.fmod j))) S
    | _, _ => .bad
  | .Pow => match a, b with
    | .v (.int i), .v (.int j) => if decide (0 ≤ j) && decide (j ≤ 1000) && Nat.blt i.natAbs.log2 1000 then .ok (.v (.int (i ^ j.toNat))) S else .bad
    | _, _ => .bad
  | _ => .bad
def intsC (f : Int → Int → Bool) (a b : R) : Option Bool := match a, b with
  | .v (.int i), .v (.int j) => some (f i j)
  | _, _ => none
def evCmp (o : CmpOp) (S : Store) (a b : R) : Option Bool := match o with
  | .Eq => eqR S a b
  | .NotEq => (eqR S a b).map (!·)
  | .Lt => intsC (fun i j => decide (i < j)) a b
  | .LtE => intsC (fun i j => decide (i ≤ j)) a b
  | .Gt => intsC (fun i j => decide (j < i)) a b
  | .GtE => intsC (fun i j => decide (j ≤ i)) a b
  | .Is => match a, b with
    | .v (.bl x), .v (.bl y) => some (x == y)
    | .v (.non), .v .non => some true
    | .v _, .v .non => some false
    | .t _, .v .non => some false
    | _, _ => none
  | .IsNot => match a, b with
    | .v (.bl x), .v (.bl y) => some (!(x == y))
    | .v (.non), .v .non => some false
    | .v _, .v .non => some true
    | .t _, .v .non => some true
    | _, _ => none
  | .In => match a, seqOf S b with
    | .v x, some (_, ys) => if flat x && ys.all flat then some (L2.inV (V.of x) (ys.map V.of)) else none
    | _, _ => none
  | .NotIn => match a, seqOf S b with
    | .v x, some (_, ys) => if flat x && ys.all flat then some (!L2.inV (V.of x) (ys.map V.of)) else none
    | _, _ => none
def allBl : List D → Option (List Bool)
  | [] => some []
  | .bl b :: r => (allBl r).map (b :: ·)
  | _ :: _ => none
def tyIs (S : Store) : R → Ty → Option Bool
  | .t _, t => some (t == .list)
  | .v d, t => match d with
    | .non => some false
    | .bl _ => some (t == .bool || t == .int)
    | .int _ => some (t == .int)
    | .str _ => some (t == .str)
    | .tup _ => some (t == .tuple)
    | .ref n => match S[n]? with
      | some (.lst _) => some (t == .list)
      | some (.dct _) => some (t == .dict)
      | none => none
    | .fl _ => none
def evBi1 (b : Bi1) (S : Store) (a : R) : Res R := match b with
  | .len => match a with
    | .v (.str x) => if Nat.ble x.length szl then .ok (.v (.int x.length)) S else .bad
    | .v (.fl ds) => .ok (.v (.int ds.length)) S
    | a => match seqOf S a with
      | some (_, ds) => .ok (.v (.int ds.length)) S
      | none => .bad
  | .abs => match a with
    | .v (.int i) => .ok (.v (.int (if i < 0 then -i else i))) S
    | _ => .bad
  | .int => match a with
    | .v (.int i) => .ok (.v (.int i)) S
    | .v (.bl b) => .ok (.v (.int (if b then 1 else 0))) S
    | _ => .bad
  | .bool => match a with
    | .v (.int i) => .ok (.v (.bl (i != 0))) S
    | .v (.bl b) => .ok (.v (.bl b)) S
    | _ => .bad
  | .all => match seqOf S a with
    | some (false, ds) => match allBl ds with
      | some bs => .ok (.v (.bl (bs.all id))) S
      | none => .bad
    | _ => .bad
  | .any => match seqOf S a with
    | some (false, ds) => match allBl ds with
      | some bs => .ok (.v (.bl (bs.any id))) S
      | none => .bad
    | _ => .bad
  | .tuple => match seqOf S a with
    | some (_, ds) => .ok (.v (.tup ds)) S
    | none => .bad
  | .list => match seqOf S a with
    | some (_, ds) => .ok (.t ds) S
    | none => .bad
  | .repr => match a with
    | .v .non => .ok (.v (.str (Str.ofString "None"))) S
    | .v (.bl b) => .ok (.v (.str (if b then Str.ofString "True" else Str.ofString "False"))) S
    | .v (.int i) => if Nat.blt i.natAbs.log2 1920 then .ok (.v (.str (Str.ofString (toString i)))) S else .bad
    | _ => .bad
def evBi2 (b : Bi2) (S : Store) (a c : R) : Res R := match b with
  | .min => match a, c with
    | .v (.int i), .v (.int j) => .ok (.v (.int (if j < i then j else i))) S
    | _, _ => .bad
  | .max => match a, c with
    | .v (.int i), .v (.int j) => .ok (.v (.int (if j > i then j else i))) S
    | _, _ => .bad
  | .divmod => match a, c with
    | .v (.int i), .v (.int j) => if decide (0 < j) && decide (j < 1073741824) then .ok (.v (.tup [.int (i / j), .int (i % j)])) S else .bad
    | _, _ => .bad
def evMet (m : Mth) (S : Store) (n : Nat) (a : D) : Res R := match m with
  | .append => match S[n]? with
    | some (.lst ds) => if Nat.blt ds.length szl then .ok (.v .non) (S.set n (.lst (ds ++ [a]))) else .bad
    | _ => .bad
def getItem (S : Store) (a i : R) : Option D := match i with
  | .v (.int i) => match a with
    | .v (.fl ds) => atD ds i
    | _ => match seqOf S a with
      | some (_, ds) => atD ds i
      | none => none
  | _ => none
def slice (ds : List D) (lo hi : Option Int) : List D := (ds.drop (HT.sIx ds.length 0 lo)).take (HT.sIx ds.length ds.length hi - HT.sIx ds.length 0 lo)
def getSlice (S : Store) (a : R) (lo hi : Option Int) : Res R := match seqOf S a with
  | some (true, ds) => .ok (.v (.tup (slice ds lo hi))) S
  | some (false, ds) => .ok (.t (slice ds lo hi)) S
  | none => .bad
def getRev (S : Store) (a : R) : Res R := match seqOf S a with
  | some (true, ds) => .ok (.v (.tup ds.reverse)) S
  | some (false, ds) => .ok (.t ds.reverse) S
  | none => .bad

/-- what a loop walks: known items, or a list of the store as it stands -/
inductive Iter where
  | its (ds : List D)
  | live (n : Nat)
def isList : R → Bool
  | .v (.tup _) => false
  | _ => true
def iterOf (S : Store) : R → Option Iter
  | .t ds => some (.its ds)
  | .v d => match d with
    | .tup ds => some (.its ds)
    | .ref n => match S[n]? with
      | some (.lst _) => some (.live n)
      | _ => none
    | _ => none
def range (a b : Int) : List D := (List.range (b - a).toNat).map fun (k : Nat) => .int (a + k)
def rngOk (i : Int) : Bool := decide (-16777216 ≤ i) && decide (i ≤ 16777216)
def zipped (S : Store) (a b : R) : Option (List D) := match a, b with
  | .v (.tup x), .v (.tup y) => some ((x.zip y).map fun p => .tup [p.1, p.2])
  | _, _ => none
def enumd (S : Store) (a : R) : Option (List D) := match a with
  | .v (.tup x) => some (x.zipIdx.map fun p => .tup [.int p.2, p.1])
  | _ => none
def wipe (ρ : Env) : List Nat → Env
  | [] => ρ
  | i :: r => (wipe ρ r).set i none
mutual
def T.slots : T → List Nat
  | .nm i => [i]
  | .tp ts => ts.slots
  | .sb _ _ => []
def Ts.slots : Ts → List Nat
  | .nil => []
  | .cons t r => t.slots ++ r.slots
end
/-- one after another, over known items -/
def overL (step : D → Store → Res (Option D)) : List D → List D → Store → Res (List D)
  | [], acc, S => .ok acc S
  | d :: r, acc, S => (step d S).bind fun o S => match o with
    | some x => overL step r (acc ++ [x]) S
    | none => overL step r acc S
/-- over a list of the store -/
def overV (step : D → Store → Res (Option D)) (n : Nat) : Nat → Nat → List D → Store → Res (List D)
  | 0, i, acc, S => match S[n]? with
    | some (.lst ds) => match ds[i]? with
      | none => .ok acc S
      | some _ => .bad
    | _ => .bad
  | f + 1, i, acc, S => match S[n]? with
    | some (.lst ds) => match ds[i]? with
      | none => .ok acc S
      | some d => (step d S).bind fun o S => match o with
        | some x => overV step n f (i + 1) (acc ++ [x]) S
        | none => overV step n f (i + 1) acc S
    | _ => .bad
def over (step : D → Store → Res (Option D)) (it : Iter) (S : Store) : Res (List D) := match it with
  | .its ds => overL step ds [] S
  | .live n => match S[n]? with
    | some (.lst ds) => overV step n ds.length 0 [] S
    | _ => .bad

structure Fn where
  np : Nat
  ns : Nat
  df : List D
  body : Ss
structure Ctx where
  fns : List Fn
  glb : List D
  fuel : Nat

def tupOf (n : Nat) : D → Option (List D)
  | .tup ds => if ds.length == n then some ds else none
  | _ => none
def uncons : List D → Option (D × List D)
  | [] => none
  | d :: r => some (d, r)
/-- a name's int, changed -/
def evAug (o : Operator) (d : D) (y : R) : Option D := match d, y with
  | .int a, .v (.int b) => match o with
    | .Add => some (.int (a + b))
    | .Sub => some (.int (a - b))
    | _ => none
  | _, _ => none
/-- the parameters that are not given -/
def fill (C : Ctx) (f : Nat) (ds : List D) : Option (List D) := match C.fns[f]? with
  | some F => if Nat.ble ds.length F.np && Nat.ble F.np (ds.length + F.df.length) then some (ds ++ F.df.drop (F.df.length - (F.np - ds.length))) else none
  | none => none
section
variable (C : Ctx) (call : Nat → List D → Store → Res R)
mutual
def evE : E → Env → Store → Res R
  | .non, _, S => .ok (.v .non) S
  | .bl b, _, S => .ok (.v (.bl b)) S
  | .int i, _, S => .ok (.v (.int i)) S
  | .str x, _, S => .ok (.v (.str x)) S
  | .var i, ρ, S => match ρ[i]? with
    | some (some d) => .ok (.v d) S
    | _ => .bad
  | .glb j, _, S => opt C.glb[j]? fun d => .ok (.v d) S
  | .tup es, ρ, S => (evEs es ρ S).bind fun ds S => .ok (.v (.tup ds)) S
  | .lst es, ρ, S => (evEs es ρ S).bind fun ds S => .ok (.t ds) S
  | .bin o a b, ρ, S => (evE a ρ S).bind fun x S => (evE b ρ S).bind fun y S => evBin o S x y
  | .neg a, ρ, S => (evE a ρ S).bind fun x S => match x with
    | .v (.int i) => .ok (.v (.int (-i))) S
    | _ => .bad
  | .not a, ρ, S => (evE a ρ S).bind fun x S => opt (truth S x) fun b => .ok (.v (.bl (!b))) S
  | .cmp o a b, ρ, S => (evE a ρ S).bind fun x S => (evE b ρ S).bind fun y S => opt (evCmp o S x y) fun c => .ok (.v (.bl c)) S
  | .chn o o' a b c, ρ, S => (evE a ρ S).bind fun x S => (evE b ρ S).bind fun y S => opt (evCmp o S x y) fun k =>
      if k then (evE c ρ S).bind fun z S => opt (evCmp o' S y z) fun k => .ok (.v (.bl k)) S else .ok (.v (.bl false)) S
  | .bop o es, ρ, S => evBop o es ρ S
  | .ife c a b, ρ, S => (evE c ρ S).bind fun x S => opt (truth S x) fun k => if k then evE a ρ S else evE b ρ S
  | .idx a i, ρ, S => (evE a ρ S).bind fun x S => (evE i ρ S).bind fun y S => opt (getItem S x y) fun d => .ok (.v d) S
  | .slc a lo hi, ρ, S => (evE a ρ S).bind fun x S => (evB lo ρ S).bind fun l S => (evB hi ρ S).bind fun h S => getSlice S x l h
  | .rev a, ρ, S => (evE a ρ S).bind fun x S => getRev S x
  | .call f es, ρ, S => (evEs es ρ S).bind fun ds S => opt (fill C f ds) fun ds => call f ds S
  | .bi1 b a, ρ, S => (evE a ρ S).bind fun x S => evBi1 b S x
  | .bi2 b a c, ρ, S => (evE a ρ S).bind fun x S => (evE c ρ S).bind fun y S => evBi2 b S x y
  | .isi a t, ρ, S => (evE a ρ S).bind fun x S => opt (tyIs S x t) fun b => .ok (.v (.bl b)) S
  | .isiT a ts, ρ, S => (evE a ρ S).bind fun x S => opt (ts.mapM (tyIs S x)) fun bs => .ok (.v (.bl (bs.any id))) S
  | .met m o a, ρ, S => (evE o ρ S).bind fun x S => match x with
    | .v (.ref n) => match S[n]? with
      | some (.lst _) => (evE a ρ S).bind fun y S => settle y S fun y S => evMet m S n y
      | _ => .bad
    | _ => .bad
  | .dct0, _, S => .ok (.v (.ref S.length)) (S ++ [.dct []])
  | .lc elt tg it c _, ρ, S => (evI it ρ S).bind fun I S =>
      (calm (over (fun d S => (asT tg d (wipe ρ tg.slots) S).bind fun ρ S => (evC c ρ S).bind fun k S =>
        if k then (evE elt ρ S).bind fun y S => settle y S fun d S => .ok (some d) S else .ok none S) I S)).bind fun ds S => .ok (.t ds) S
def evEs : Es → Env → Store → Res (List D)
  | .nil, _, S => .ok [] S
  | .cons e r, ρ, S => (evE e ρ S).bind fun x S => settle x S fun d S => (evEs r ρ S).bind fun ds S => .ok (d :: ds) S
def evBop : BoolOp → Es → Env → Store → Res R
  | _, .nil, _, _ => .bad
  | o, .cons e r, ρ, S => match r with
    | .nil => evE e ρ S
    | .cons e' r' => (evE e ρ S).bind fun x S => opt (truth S x) fun k => match o with
      | .And => if k then evBop o (.cons e' r') ρ S else .ok x S
      | .Or => if k then .ok x S else evBop o (.cons e' r') ρ S
def evB : Eo → Env → Store → Res (Option Int)
  | .no, _, S => .ok none S
  | .so e, ρ, S => (evE e ρ S).bind fun x S => match x with
    | .v (.int i) => .ok (some i) S
    | _ => .bad
def evC : Eo → Env → Store → Res Bool
  | .no, _, S => .ok true S
  | .so e, ρ, S => (evE e ρ S).bind fun x S => opt (truth S x) fun k => .ok k S
def asT : T → D → Env → Store → Res Env
  | .nm i, d, ρ, S => .ok (ρ.set i (some d)) S
  | .tp ts, d, ρ, S => opt (tupOf ts.len d) fun ds => asTs ts ds ρ S
  | .sb o i, d, ρ, S => (evE o ρ S).bind fun x S => (evE i ρ S).bind fun y S => match x, y with
    | .v (.ref n), .v (.int k) => match S[n]? with
      | some (.lst ds) => opt (ixD ds.length k) fun j => .ok ρ (S.set n (.lst (ds.set j d)))
      | _ => .bad
    | _, _ => .bad
def asTs : Ts → List D → Env → Store → Res Env
  | .nil, ds, ρ, S => if ds.isEmpty then .ok ρ S else .bad
  | .cons t r, ds, ρ, S => opt (uncons ds) fun p => (asT t p.1 ρ S).bind fun ρ S => asTs r p.2 ρ S
def evI : It → Env → Store → Res Iter
  | .seq e, ρ, S => (evE e ρ S).bind fun x S => opt (iterOf S x) fun I => .ok I S
  | .rng1 a, ρ, S => (evE a ρ S).bind fun x S => match x with
    | .v (.int i) => if rngOk i then .ok (.its (range 0 i)) S else .bad
    | _ => .bad
  | .rng2 a b, ρ, S => (evE a ρ S).bind fun x S => (evE b ρ S).bind fun y S => match x, y with
    | .v (.int i), .v (.int j) => if rngOk i && rngOk j && decide (j - i ≤ 16777216) then .ok (.its (range i j)) S else .bad
    | _, _ => .bad
  | .zip a b, ρ, S => (evE a ρ S).bind fun x S => (evE b ρ S).bind fun y S => opt (zipped S x y) fun ds => .ok (.its ds) S
  | .enum a, ρ, S => (evE a ρ S).bind fun x S => opt (enumd S x) fun ds => .ok (.its ds) S
end
inductive Fl where
  | nx (ρ : Env)
  | rt (r : R)
  | bk (ρ : Env)
  | ct (ρ : Env)
def evWhl (test : Env → Store → Res R) (body : Env → Store → Res Fl) : Nat → Env → Store → Res Fl
  | 0, _, _ => .bad
  | f + 1, ρ, S => (test ρ S).bind fun x S => opt (truth S x) fun k =>
      if k then (body ρ S).bind fun fl S => match fl with
        | .nx ρ => evWhl test body f ρ S
        | .ct ρ => evWhl test body f ρ S
        | .bk ρ => .ok (.nx ρ) S
        | .rt r => .ok (.rt r) S
      else .ok (.nx ρ) S
def forL (turn : D → Env → Store → Res Fl) : List D → Env → Store → Res Fl
  | [], ρ, S => .ok (.nx ρ) S
  | d :: r, ρ, S => (turn d ρ S).bind fun fl S => match fl with
    | .nx ρ => forL turn r ρ S
    | .ct ρ => forL turn r ρ S
    | .bk ρ => .ok (.nx ρ) S
    | .rt r => .ok (.rt r) S
def forV (turn : D → Env → Store → Res Fl) (n : Nat) : Nat → Nat → Env → Store → Res Fl
  | 0, i, ρ, S => match S[n]? with
    | some (.lst ds) => match ds[i]? with
      | none => .ok (.nx ρ) S
      | some _ => .bad
    | _ => .bad
  | f + 1, i, ρ, S => match S[n]? with
    | some (.lst ds) => match ds[i]? with
      | none => .ok (.nx ρ) S
      | some d => (turn d ρ S).bind fun fl S => match fl with
        | .nx ρ => forV turn n f (i + 1) ρ S
        | .ct ρ => forV turn n f (i + 1) ρ S
        | .bk ρ => .ok (.nx ρ) S
        | .rt r => .ok (.rt r) S
    | _ => .bad
def forI (turn : D → Env → Store → Res Fl) (it : Iter) (ρ : Env) (S : Store) : Res Fl := match it with
  | .its ds => forL turn ds ρ S
  | .live n => match S[n]? with
    | some (.lst ds) => forV turn n ds.length 0 ρ S
    | _ => .bad
mutual
def evS : S → Env → Store → Res Fl
  | .asg t e, ρ, S => (evE C call e ρ S).bind fun x S => settle x S fun d S => (calm (asT C call t d ρ S)).bind fun ρ S => .ok (.nx ρ) S
  | .par2 i j a b, ρ, S => (evE C call a ρ S).bind fun x S => settle x S fun x S => (evE C call b ρ S).bind fun y S => settle y S fun y S =>
      .ok (.nx ((ρ.set i (some x)).set j (some y))) S
  | .par3 i j k a b c, ρ, S => (evE C call a ρ S).bind fun x S => settle x S fun x S => (evE C call b ρ S).bind fun y S => settle y S fun y S =>
      (evE C call c ρ S).bind fun z S => settle z S fun z S => .ok (.nx (((ρ.set i (some x)).set j (some y)).set k (some z))) S
  | .aug i o e, ρ, S => match ρ[i]? with
    | some (some d) => (evE C call e ρ S).bind fun y S => opt (evAug o d y) fun d => .ok (.nx (ρ.set i (some d))) S
    | _ => .bad
  | .expr e, ρ, S => (evE C call e ρ S).bind fun _ S => .ok (.nx ρ) S
  | .ife c a b, ρ, S => (evE C call c ρ S).bind fun x S => opt (truth S x) fun k => if k then evSs a ρ S else evSs b ρ S
  | .whl c b, ρ, S => evWhl (evE C call c) (evSs b) C.fuel ρ S
  | .for t it b, ρ, S => (evI C call it ρ S).bind fun I S => forI (fun d ρ S => (calm (asT C call t d ρ S)).bind fun ρ S => evSs b ρ S) I ρ S
  | .ret e, ρ, S => (evE C call e ρ S).bind fun x S => .ok (.rt x) S
  | .ret0, _, S => .ok (.rt (.v .non)) S
  | .pass, ρ, S => .ok (.nx ρ) S
  | .brk, ρ, S => .ok (.bk ρ) S
  | .cont, ρ, S => .ok (.ct ρ) S
  | .hole _, _, _ => .bad
def evSs : Ss → Env → Store → Res Fl
  | .nil, ρ, S => .ok (.nx ρ) S
  | .cons s r, ρ, S => (evS s ρ S).bind fun fl S => match fl with
    | .nx ρ => evSs r ρ S
    | fl => .ok fl S
end
end
/-- behind a call: what is no longer reached is dropped -/
def fin (n : Nat) (r : R) (S : Store) : Res R :=
  if Nat.ble S.length n then .ok r S
  else if (S.take n).all (lowC n) then match r with
    | .t ds => if ds.all (lowD n 66) then .ok r (S.take n) else .ok r S
    | .v (.ref m) => if Nat.blt m n then .ok r (S.take n) else match S[m]? with
      | some (.lst ds) => if ds.all (lowD n 66) then .ok (.t ds) (S.take n) else .ok r S
      | _ => .ok r S
    | .v d => if lowD n 66 d then .ok r (S.take n) else .ok r S
  else .ok r S
def start (F : Fn) (ds : List D) : Env := ds.map some ++ List.replicate (F.ns - ds.length) none
def evCall (C : Ctx) : Nat → Nat → List D → Store → Res R
  | 0, _, _, _ => .bad
  | n + 1, f, ds, S => opt C.fns[f]? fun F => if ds.length == F.np then
      (evSs C (evCall C n) F.body (start F ds) S).bind fun fl S' => match fl with
        | .rt r => fin S.length r S'
        | .nx _ => fin S.length (.v .non) S'
        | _ => .bad
    else .bad
end Q
end
section
-- Py
set_option linter.all false
namespace Q
open PySem
abbrev PL := List Pos
def hd (ps : PL) : Pos := ps.headD ⟨0, 0, 0, 0⟩
/-! the positions of a text, in the order that they are used; the statements that are never reached -/
inductive Xi where
  | ps (p : Pos)
  | sc (s : Scope)
def Xi.pos : Xi → Option Pos
  | .ps p => some p
  | _ => none
def Xi.scp : Xi → Option Scope
  | .sc p => some p
  | _ => none
mutual
def xE : Nat → Expr → List Xi
  | 0, _ => []
  | n + 1, e => match e with
    | .Constant _ _ p => [.ps p]
    | .Name _ p => [.ps p]
    | .Tuple es _ p => .ps p :: xEs n es
    | .List es p => .ps p :: xEs n es
    | .BinOp a _ b p => .ps p :: (xE n a ++ xE n b)
    | .UnaryOp _ a p => .ps p :: xE n a
    | .Compare a _ bs p => .ps p :: (xE n a ++ xEs n bs)
    | .BoolOp _ es p => .ps p :: xEs n es
    | .IfExp c a b p => .ps p :: (xE n c ++ (xE n a ++ xE n b))
    | .Subscript a i p => match i with
      | .Slice none none (some (.UnaryOp _ (.Constant _ _ p3) p2)) p1 => .ps p :: .ps p1 :: .ps p2 :: .ps p3 :: xE n a
      | .Slice lo hi _ p1 => .ps p :: .ps p1 :: (xE n a ++ (xO n lo ++ xO n hi))
      | i => .ps p :: (xE n a ++ xE n i)
    | .Call f es _ p => match f with
      | .Attribute o _ p1 => .ps p :: .ps p1 :: (xE n o ++ xEs n es)
      | .Name x p1 => if x == ("isinstance" : Str) then match es with
          | [a, .Tuple ts _ p2] => .ps p :: .ps p1 :: .ps p2 :: (xEs n ts ++ xE n a)
          | [a, .Name _ p2] => .ps p :: .ps p1 :: .ps p2 :: xE n a
          | _ => []
        else .ps p :: .ps p1 :: xEs n es
      | _ => []
    | .Dict _ _ p => [.ps p]
    | .ListComp el gs sc p => match gs with
      | [g] => .ps p :: .sc sc :: (xE n g.iter ++ (xE n g.target ++ (xEs n g.ifs ++ xE n el)))
      | _ => []
    | _ => []
def xEs : Nat → List Expr → List Xi
  | 0, _ => []
  | n + 1, es => match es with
    | [] => []
    | e :: r => xE n e ++ xEs n r
def xO : Nat → Option Expr → List Xi
  | 0, _ => []
  | n + 1, o => match o with
    | none => []
    | some e => xE n e
end
mutual
def xS : Nat → Stmt → List Xi
  | 0, _ => []
  | n + 1, s => match s with
    | .Assign ts v p => .ps p :: (xEs 60 ts ++ xE 60 v)
    | .AugAssign t _ v p => .ps p :: (xE 60 t ++ xE 60 v)
    | .Expr e p => .ps p :: xE 60 e
    | .If c a b p => .ps p :: (xE 60 c ++ (xSs n a ++ xSs n b))
    | .While c b _ p => .ps p :: (xE 60 c ++ xSs n b)
    | .For t it b _ p => .ps p :: (xE 60 t ++ (xE 60 it ++ xSs n b))
    | .Return e p => .ps p :: xO 60 e
    | .Pass p => [.ps p]
    | .Break p => [.ps p]
    | .Continue p => [.ps p]
    | _ => []
def xSs : Nat → List Stmt → List Xi
  | 0, _ => []
  | n + 1, l => match l with
    | [] => []
    | s :: r => xS n s ++ xSs n r
end
mutual
def hS : Nat → Stmt → List Stmt
  | 0, _ => []
  | n + 1, s => match s with
    | .If _ a b _ => hSs n a ++ hSs n b
    | .While _ b _ _ => hSs n b
    | .For _ _ b _ _ => hSs n b
    | .Raise a b p => [.Raise a b p]
    | _ => []
def hSs : Nat → List Stmt → List Stmt
  | 0, _ => []
  | n + 1, l => match l with
    | [] => []
    | s :: r => hS n s ++ hSs n r
end
def Bi1.nm : Bi1 → Str
  | .len => "len" | .abs => "abs" | .int => "int" | .bool => "bool" | .all => "all" | .any => "any" | .tuple => "tuple" | .list => "list" | .repr => "repr"
def Bi2.nm : Bi2 → Str
  | .min => "min" | .max => "max" | .divmod => "divmod"
def Mth.nm : Mth → Str
  | .append => "append"
def Ty.nm : Ty → Str
  | .int => "int" | .bool => "bool" | .str => "str" | .tuple => "tuple" | .list => "list" | .dict => "dict"
/-- the names of a def: its slots, its scope, the text's defs and constants -/
structure Nm where
  N : List Str
  sc : Scope
  fs : Str → Bool
  fn : List (Str × Nat × Nat)
  gl : List Str
  hs : List Stmt
  scs : List Scope
def Nm.scp (m : Nm) (k : Nat) : Scope := m.scs.getD k ⟨.function, [], false, false, []⟩
def Nm.in (m : Nm) (sc : Scope) : Nm := { m with sc := L2.relS sc m.sc, fs := fun x => sc.names.lookup x == some .cell }
section
variable (m : Nm)
def nmOf (l : List Str) (i : Nat) : Str := l.getD i Str.empty
def fnOf (l : List (Str × Nat × Nat)) (i : Nat) : Str := (l.getD i (Str.empty, 0, 0)).1
def tyExprs : List Ty → PL → List Expr
  | [], _ => []
  | t :: r, ps => .Name t.nm (hd ps) :: tyExprs r ps.tail
mutual
def pE : Nm → E → PL → Expr × PL
  | _, .non, ps => (.Constant .none 0 (hd ps), ps.tail)
  | _, .bl b, ps => (.Constant (.bool b) 0 (hd ps), ps.tail)
  | _, .int i, ps => (.Constant (.int i) 0 (hd ps), ps.tail)
  | _, .str x, ps => (.Constant (.str x) 0 (hd ps), ps.tail)
  | m, .var i, ps => (.Name (nmOf m.N i) (hd ps), ps.tail)
  | m, .glb j, ps => (.Name (nmOf m.gl j) (hd ps), ps.tail)
  | m, .tup es, ps => (.Tuple (pEs m es ps.tail).1 0 (hd ps), (pEs m es ps.tail).2)
  | m, .lst es, ps => (.List (pEs m es ps.tail).1 (hd ps), (pEs m es ps.tail).2)
  | m, .bin o a b, ps => (.BinOp (pE m a ps.tail).1 o (pE m b (pE m a ps.tail).2).1 (hd ps), (pE m b (pE m a ps.tail).2).2)
  | m, .neg a, ps => (.UnaryOp .USub (pE m a ps.tail).1 (hd ps), (pE m a ps.tail).2)
  | m, .not a, ps => (.UnaryOp .Not (pE m a ps.tail).1 (hd ps), (pE m a ps.tail).2)
  | m, .cmp o a b, ps => (.Compare (pE m a ps.tail).1 [o] [(pE m b (pE m a ps.tail).2).1] (hd ps), (pE m b (pE m a ps.tail).2).2)
  | m, .chn o o' a b c, ps => (.Compare (pE m a ps.tail).1 [o, o'] [(pE m b (pE m a ps.tail).2).1, (pE m c (pE m b (pE m a ps.tail).2).2).1] (hd ps), (pE m c (pE m b (pE m a ps.tail).2).2).2)
  | m, .bop o es, ps => (.BoolOp o (pEs m es ps.tail).1 (hd ps), (pEs m es ps.tail).2)
  | m, .ife c a b, ps => (.IfExp (pE m c ps.tail).1 (pE m a (pE m c ps.tail).2).1 (pE m b (pE m a (pE m c ps.tail).2).2).1 (hd ps), (pE m b (pE m a (pE m c ps.tail).2).2).2)
  | m, .idx a i, ps => (.Subscript (pE m a ps.tail).1 (pE m i (pE m a ps.tail).2).1 (hd ps), (pE m i (pE m a ps.tail).2).2)
  | m, .slc a lo hi, ps => (.Subscript (pE m a ps.tail.tail).1 (.Slice (pEo m lo (pE m a ps.tail.tail).2).1 (pEo m hi (pEo m lo (pE m a ps.tail.tail).2).2).1 none (hd ps.tail)) (hd ps), (pEo m hi (pEo m lo (pE m a ps.tail.tail).2).2).2)
  | m, .rev a, ps => (.Subscript (pE m a ps.tail.tail.tail.tail).1 (.Slice none none (some (.UnaryOp .USub (.Constant (.int 1) 0 (hd ps.tail.tail.tail)) (hd ps.tail.tail))) (hd ps.tail)) (hd ps), (pE m a ps.tail.tail.tail.tail).2)
  | m, .call f es, ps => (.Call (.Name (fnOf m.fn f) (hd ps.tail)) (pEs m es ps.tail.tail).1 [] (hd ps), (pEs m es ps.tail.tail).2)
  | m, .bi1 b a, ps => (.Call (.Name b.nm (hd ps.tail)) [(pE m a ps.tail.tail).1] [] (hd ps), (pE m a ps.tail.tail).2)
  | m, .bi2 b a c, ps => (.Call (.Name b.nm (hd ps.tail)) [(pE m a ps.tail.tail).1, (pE m c (pE m a ps.tail.tail).2).1] [] (hd ps), (pE m c (pE m a ps.tail.tail).2).2)
  | m, .isi a t, ps => (.Call (.Name "isinstance" (hd ps.tail)) [(pE m a ps.tail.tail.tail).1, .Name t.nm (hd ps.tail.tail)] [] (hd ps), (pE m a ps.tail.tail.tail).2)
  | m, .isiT a ts, ps => (.Call (.Name "isinstance" (hd ps.tail)) [(pE m a (ps.tail.tail.tail.drop ts.length)).1, .Tuple (tyExprs ts ps.tail.tail.tail) 0 (hd ps.tail.tail)] [] (hd ps), (pE m a (ps.tail.tail.tail.drop ts.length)).2)
  | m, .met k o a, ps => (.Call (.Attribute (pE m o ps.tail.tail).1 k.nm { hd ps.tail with endLine := (hd ps).line }) [(pE m a (pE m o ps.tail.tail).2).1] [] (hd ps), (pE m a (pE m o ps.tail.tail).2).2)
  | _, .dct0, ps => (.Dict [] [] (hd ps), ps.tail)
  | m, .lc elt tg it c k, ps =>
      let sc := m.scp k
      let I := pI m it ps.tail
      let G := pT (m.in sc) tg I.2
      let Cc := pEo (m.in sc) c G.2
      let El := pE (m.in sc) elt Cc.2
      (.ListComp El.1 [⟨G.1, I.1, Cc.1.toList, 0⟩] sc (hd ps), El.2)
def pEs : Nm → Es → PL → List Expr × PL
  | _, .nil, ps => ([], ps)
  | m, .cons e r, ps => ((pE m e ps).1 :: (pEs m r (pE m e ps).2).1, (pEs m r (pE m e ps).2).2)
def pEo : Nm → Eo → PL → Option Expr × PL
  | _, .no, ps => (none, ps)
  | m, .so e, ps => (some (pE m e ps).1, (pE m e ps).2)
def pT : Nm → T → PL → Expr × PL
  | m, .nm i, ps => (.Name (nmOf m.N i) (hd ps), ps.tail)
  | m, .tp ts, ps => (.Tuple (pTs m ts ps.tail).1 0 (hd ps), (pTs m ts ps.tail).2)
  | m, .sb o i, ps => (.Subscript (pE m o ps.tail).1 (pE m i (pE m o ps.tail).2).1 (hd ps), (pE m i (pE m o ps.tail).2).2)
def pTs : Nm → Ts → PL → List Expr × PL
  | _, .nil, ps => ([], ps)
  | m, .cons e r, ps => ((pT m e ps).1 :: (pTs m r (pT m e ps).2).1, (pTs m r (pT m e ps).2).2)
def pI : Nm → It → PL → Expr × PL
  | m, .seq e, ps => pE m e ps
  | m, .rng1 a, ps => (.Call (.Name "range" (hd ps.tail)) [(pE m a ps.tail.tail).1] [] (hd ps), (pE m a ps.tail.tail).2)
  | m, .rng2 a c, ps => (.Call (.Name "range" (hd ps.tail)) [(pE m a ps.tail.tail).1, (pE m c (pE m a ps.tail.tail).2).1] [] (hd ps), (pE m c (pE m a ps.tail.tail).2).2)
  | m, .zip a c, ps => (.Call (.Name "zip" (hd ps.tail)) [(pE m a ps.tail.tail).1, (pE m c (pE m a ps.tail.tail).2).1] [] (hd ps), (pE m c (pE m a ps.tail.tail).2).2)
  | m, .enum a, ps => (.Call (.Name "enumerate" (hd ps.tail)) [(pE m a ps.tail.tail).1] [] (hd ps), (pE m a ps.tail.tail).2)
end
mutual
def pS : Nm → S → PL → Stmt × PL
  | m, .asg t e, ps => (.Assign [(pT m t ps.tail).1] (pE m e (pT m t ps.tail).2).1 (hd ps), (pE m e (pT m t ps.tail).2).2)
  | m, .par2 i j a b, ps =>
      let x := pE m a (ps.drop 5)
      let y := pE m b x.2
      (.Assign [.Tuple [.Name (nmOf m.N i) (hd (ps.drop 2)), .Name (nmOf m.N j) (hd (ps.drop 3))] 0 (hd (ps.drop 1))] (.Tuple [x.1, y.1] 0 (hd (ps.drop 4))) (hd ps), y.2)
  | m, .par3 i j k a b c, ps =>
      let x := pE m a (ps.drop 6)
      let y := pE m b x.2
      let z := pE m c y.2
      (.Assign [.Tuple [.Name (nmOf m.N i) (hd (ps.drop 2)), .Name (nmOf m.N j) (hd (ps.drop 3)), .Name (nmOf m.N k) (hd (ps.drop 4))] 0 (hd (ps.drop 1))] (.Tuple [x.1, y.1, z.1] 0 (hd (ps.drop 5))) (hd ps), z.2)
  | m, .aug i o e, ps => (.AugAssign (.Name (nmOf m.N i) (hd ps.tail)) o (pE m e ps.tail.tail).1 (hd ps), (pE m e ps.tail.tail).2)
  | m, .expr e, ps => (.Expr (pE m e ps.tail).1 (hd ps), (pE m e ps.tail).2)
  | m, .ife c a b, ps => (.If (pE m c ps.tail).1 (pSs m a (pE m c ps.tail).2).1 (pSs m b (pSs m a (pE m c ps.tail).2).2).1 (hd ps), (pSs m b (pSs m a (pE m c ps.tail).2).2).2)
  | m, .whl c b, ps => (.While (pE m c ps.tail).1 (pSs m b (pE m c ps.tail).2).1 [] (hd ps), (pSs m b (pE m c ps.tail).2).2)
  | m, .for t it b, ps => (.For (pT m t ps.tail).1 (pI m it (pT m t ps.tail).2).1 (pSs m b (pI m it (pT m t ps.tail).2).2).1 [] (hd ps), (pSs m b (pI m it (pT m t ps.tail).2).2).2)
  | m, .ret e, ps => (.Return (some (pE m e ps.tail).1) (hd ps), (pE m e ps.tail).2)
  | _, .ret0, ps => (.Return none (hd ps), ps.tail)
  | _, .pass, ps => (.Pass (hd ps), ps.tail)
  | _, .brk, ps => (.Break (hd ps), ps.tail)
  | _, .cont, ps => (.Continue (hd ps), ps.tail)
  | m, .hole k, ps => (m.hs.getD k (.Pass ⟨0, 0, 0, 0⟩), ps)
def pSs : Nm → Ss → PL → List Stmt × PL
  | _, .nil, ps => ([], ps)
  | m, .cons e r, ps => ((pS m e ps).1 :: (pSs m r (pS m e ps).2).1, (pSs m r (pS m e ps).2).2)
end

/-! ### what the rules ask of the names -/
def isG (m : Nm) (x : Str) : Bool := (m.sc.names.lookup x == some .globalImplicit) && !(x == ("__debug__" : Str)) && !(x == ("__name__" : Str))
def kindV (k : Option NameKind) : Bool := k == some .local || k == some .cell || k == some .free
def isV (m : Nm) (i : Nat) : Bool := Nat.blt i m.N.length && kindV (m.sc.names.lookup (nmOf m.N i)) && !(nmOf m.N i == ("__debug__" : Str)) && !(nmOf m.N i == ("__classdict__" : Str))
def isA (m : Nm) (i : Nat) : Bool := Nat.blt i m.N.length && (m.sc.names.lookup (nmOf m.N i) == some .local || (m.sc.names.lookup (nmOf m.N i) == some .cell && m.fs (nmOf m.N i)))
def T.isNames : T → Bool
  | .nm _ => true
  | .tp ts => go ts
  | .sb _ _ => false
where go : Ts → Bool
  | .nil => true
  | .cons t r => t.isNames && go r
/-- pairs are walked into several names -/
def okTI (t : T) (it : It) : Bool := match it with
  | .zip _ _ | .enum _ => (match t with | .tp _ => true | _ => false)
  | _ => true
def notCall : E → Bool
  | .call _ _ => false
  | _ => true
def ownOf (m : Nm) (t : T) : List (Str × Nat) := t.slots.map fun i => (nmOf m.N i, i)
mutual
def kE : Nm → E → Bool
  | _, .non | _, .bl _ | _, .int _ | _, .str _ | _, .dct0 => true
  | m, .var i => isV m i
  | m, .glb j => Nat.blt j m.gl.length && isG m (nmOf m.gl j)
  | m, .tup es => kEs m es && Nat.ble es.len 5000
  | m, .lst es => kEs m es && Nat.ble es.len 5000
  | m, .bin _ a b => kE m a && kE m b
  | m, .neg a => kE m a
  | m, .not a => kE m a
  | m, .cmp _ a b => kE m a && kE m b
  | m, .chn _ _ a b c => kE m a && kE m b && kE m c
  | m, .bop _ es => kEs m es && Nat.blt 0 es.len
  | m, .ife c a b => kE m c && kE m a && kE m b
  | m, .idx a i => kE m a && kE m i
  | m, .slc a lo hi => kE m a && kEo m lo && kEo m hi
  | m, .rev a => kE m a
  | m, .call f es => (match m.fn[f]? with
    | some (x, np, nd) => isG m x && Nat.ble es.len np && Nat.ble np (es.len + nd)
    | none => false) && kEs m es && Nat.blt 0 es.len
  | m, .bi1 b a => isG m b.nm && kE m a
  | m, .bi2 b a c => isG m b.nm && kE m a && kE m c
  | m, .isi a t => isG m "isinstance" && isG m t.nm && kE m a
  | m, .isiT a ts => isG m "isinstance" && ts.all (fun t => isG m t.nm) && !ts.isEmpty && Nat.ble ts.length 5000 && kE m a
  | m, .met _ o a => notCall o && kE m o && kE m a
  | m, .lc elt tg it c k => kI m it && okTI tg it && tg.isNames && L2.blkC m.N m.sc (m.scp k) (ownOf m tg) && kT (m.in (m.scp k)) tg && kEo (m.in (m.scp k)) c && kE (m.in (m.scp k)) elt
def kEs : Nm → Es → Bool
  | _, .nil => true
  | m, .cons e r => kE m e && kEs m r
def kEo : Nm → Eo → Bool
  | _, .no => true
  | m, .so e => kE m e
def kT : Nm → T → Bool
  | m, .nm i => isA m i
  | m, .tp ts => kTs m ts
  | m, .sb o i => kE m o && kE m i
def kTs : Nm → Ts → Bool
  | _, .nil => true
  | m, .cons t r => kT m t && kTs m r
def kI : Nm → It → Bool
  | m, .seq e => kE m e
  | m, .rng1 a => isG m "range" && kE m a
  | m, .rng2 a c => isG m "range" && kE m a && kE m c
  | m, .zip a c => isG m "zip" && kE m a && kE m c
  | m, .enum a => isG m "enumerate" && kE m a
end
end
end Q
end
section
-- Snd1
set_option Elab.async false
set_option linter.all false
set_option maxRecDepth 100000
namespace Q
open PySem PySem.Spec PyProof.Rows L2

/-- what is never written -/
def Imm (H : Hp) (a : Addr) (u : HO) : Prop := (∃ o, H a = some (.frz o u)) ∨ ((∃ xs, u = .tup xs) ∧ H a = some u)
def Im (H H' : Hp) : Prop := ∀ a u, Imm H a u → Imm H' a u
def FzL (K : PySem.W.Frag) (H : Hp) (a : Addr) (xs : List L2.V) : Prop :=
  Imm H a (.lst xs) ∨
    ∃ (o : Obj) (its : Array Value) (n : Nat), K.lookup a = some o ∧ o.cls = .type "list" ∧ o.dict = none ∧ o.data = .seq its n ∧ its.size ≤ sizeLine ∧ Vals xs its.toList
theorem imm_tup {H : Hp} {a : Addr} {xs : List L2.V} : Imm H a (.tup xs) ↔ Rd H a (.tup xs) :=
  ⟨fun h => h.elim .inr fun h => .inl h.2, fun h => h.elim (fun h => .inr ⟨⟨xs, rfl⟩, h⟩) .inl⟩
theorem imm_lst {H : Hp} {a : Addr} {xs : List L2.V} (h : H a = some (.lst xs)) : ∀ u, ¬ Imm H a u := fun u z => by
  rcases z with ⟨o, z⟩ | ⟨⟨ys, e⟩, z⟩
  · rw [h] at z; cases z
  · subst e; rw [h] at z; cases z
theorem im_grow {H H' : Hp} (k : ∀ a o, H a = some o → H' a = some o) : Im H H' := fun a u h => h.elim (fun ⟨o, h⟩ => .inl ⟨o, k _ _ h⟩) fun ⟨e, h⟩ => .inr ⟨e, k _ _ h⟩
theorem FzL.seq {K : PySem.W.Frag} {H : Hp} {a : Addr} {xs : List L2.V} (h : FzL K H a xs) : SqL K H a xs := h.elim (fun h => .inl (h.elim .inr fun h => .inl h.2)) .inr
theorem im_upd {H : Hp} {a : Addr} {o : HO} (n : ∀ u, ¬ Imm H a u) : Im H (upd H a o) := fun b u hb => by
  have ne : b ≠ a := fun z => n u (z ▸ hb)
  rcases hb with ⟨w, hb⟩ | ⟨e, hb⟩
  · exact .inl ⟨w, by rw [upd_ne ne]; exact hb⟩
  · exact .inr ⟨e, by rw [upd_ne ne]; exact hb⟩
section
variable (K : PySem.W.Frag) (H : Hp) (μ : List Addr)
mutual
inductive RD : D → L2.V → Prop where
  | non : RD .non .non
  | bl (b : Bool) : RD (.bl b) (.bl b)
  | int (i : Int) : RD (.int i) (.int i)
  | str (x : Str) : RD (.str x) (.str x)
  | tup {a : Addr} {vs : List L2.V} {ds : List D} : SqT K H a vs → RDs ds vs → RD (.tup ds) (.ref a)
  | ref {n : Nat} {a : Addr} : μ[n]? = some a → RD (.ref n) (.ref a)
  | fl {a : Addr} {vs : List L2.V} {ds : List D} : FzL K H a vs → RDs ds vs → RD (.fl ds) (.ref a)
inductive RDs : List D → List L2.V → Prop where
  | nil : RDs [] []
  | cons {d : D} {v : L2.V} {ds : List D} {vs : List L2.V} : RD d v → RDs ds vs → RDs (d :: ds) (v :: vs)
end
end
/-- tuples stay, what is not of the store (and not the list at D) stays -/
structure StepD (D : Option Addr) (H : Hp) (μ : List Addr) (H' : Hp) (μ' : List Addr) : Prop where
  keepD : ∀ a o, H a = some o → a ∉ μ → some a ≠ D → H' a = some o
  tups : Im H H'
  live : ∀ a, H' a = none → H a = none
  pre : ∃ ν, μ' = μ ++ ν ∧ ∀ a ∈ ν, H a = none
abbrev Step := StepD none
theorem StepD.keep {H H' : Hp} {μ μ' : List Addr} (s : Step H μ H' μ') : ∀ a o, H a = some o → a ∉ μ → H' a = some o := fun a o h n => s.keepD a o h n (by simp)
theorem StepD.mk' {H H' : Hp} {μ μ' : List Addr} (k : ∀ a o, H a = some o → a ∉ μ → H' a = some o) (t : Im H H') (l : ∀ a, H' a = none → H a = none) (p : ∃ ν, μ' = μ ++ ν ∧ ∀ a ∈ ν, H a = none) : Step H μ H' μ' :=
  ⟨fun a o h n _ => k a o h n, t, l, p⟩
theorem StepD.refl {D : Option Addr} {H : Hp} {μ : List Addr} : StepD D H μ H μ := ⟨fun _ _ h _ _ => h, fun _ _ h => h, fun _ h => h, [], by simp, by simp⟩
theorem StepD.notin {D : Option Addr} {H H' : Hp} {μ μ' : List Addr} (s : StepD D H μ H' μ') {a : Addr} {o : HO} (h : H a = some o) (n : a ∉ μ) : a ∉ μ' := by
  obtain ⟨ν, e, hν⟩ := s.pre
  subst e
  intro z
  rcases List.mem_append.mp z with z | z
  · exact n z
  · rw [hν a z] at h; cases h
theorem StepD.trans {D : Option Addr} {H H1 H2 : Hp} {μ μ1 μ2 : List Addr} (s : StepD D H μ H1 μ1) (t : StepD D H1 μ1 H2 μ2) : StepD D H μ H2 μ2 := by
  refine ⟨fun a o h n d => t.keepD a o (s.keepD a o h n d) (s.notin h n) d, fun a xs h => t.tups a xs (s.tups a xs h), fun a h => s.live a (t.live a h), ?_⟩
  obtain ⟨ν, e, hν⟩ := s.pre
  obtain ⟨ν', e', hν'⟩ := t.pre
  subst e
  subst e'
  refine ⟨ν ++ ν', by rw [List.append_assoc], fun a ha => ?_⟩
  rcases List.mem_append.mp ha with z | z
  · exact hν a z
  · exact s.live a (hν' a z)
theorem StepD.weak {D : Option Addr} {H H' : Hp} {μ μ' : List Addr} (s : Step H μ H' μ') : StepD D H μ H' μ' := ⟨fun a o h n _ => s.keep a o h n, s.tups, s.live, s.pre⟩
/-- what was not there ahead need not be left out -/
theorem StepD.drop {D : Option Addr} {H H' : Hp} {μ μ' : List Addr} (s : StepD D H μ H' μ') (h : ∀ d, D = some d → H d = none) : Step H μ H' μ' :=
  StepD.mk' (fun a o e n => s.keepD a o e n fun z => by rw [h a z.symm] at e; cases e) s.tups s.live s.pre
theorem StepD.ix {D : Option Addr} {H H' : Hp} {μ μ' : List Addr} (s : StepD D H μ H' μ') {n : Nat} {a : Addr} (h : μ[n]? = some a) : μ'[n]? = some a := by
  obtain ⟨ν, e, _⟩ := s.pre
  subst e
  rw [List.getElem?_append_left (List.getElem?_eq_some_iff.mp h).1]
  exact h
/-- everything stays -/
theorem StepD.grow {D : Option Addr} {H H' : Hp} {μ : List Addr} (k : ∀ a o, H a = some o → H' a = some o) : StepD D H μ H' μ :=
  ⟨fun a o h _ _ => k a o h, im_grow k, fun a h => (by
    cases e : H a with
    | none => rfl
    | some o => rw [k a o e] at h; cases h), [], by simp, by simp⟩
theorem grow_upd {H : Hp} {p : Addr} {o : HO} (hp : H p = none) : ∀ a u, H a = some u → upd H p o a = some u := fun a u h => by
  rw [upd_ne (ne_of_none h hp)]; exact h
section
variable {K : PySem.W.Frag} {H H' : Hp} {μ μ' : List Addr}
theorem SqT.mono' (t : Im H H') {a : Addr} {xs : List L2.V} (h : SqT K H a xs) : SqT K H' a xs := h.elim (fun h => .inl (imm_tup.mp (t _ _ (imm_tup.mpr h)))) .inr
theorem FzL.mono' (t : Im H H') {a : Addr} {xs : List L2.V} (h : FzL K H a xs) : FzL K H' a xs := h.elim (fun h => .inl (t _ _ h)) .inr
mutual
theorem RD.mono (t : Im H H') (x : ∀ (n : Nat) a, μ[n]? = some a → μ'[n]? = some a) : ∀ {d : D} {v : L2.V}, RD K H μ d v → RD K H' μ' d v
  | _, _, .non => .non
  | _, _, .bl b => .bl b
  | _, _, .int i => .int i
  | _, _, .str y => .str y
  | _, _, .tup h r => .tup (SqT.mono' t h) (RDs.mono t x r)
  | _, _, .ref h => .ref (x _ _ h)
  | _, _, .fl h r => .fl (FzL.mono' t h) (RDs.mono t x r)
theorem RDs.mono (t : Im H H') (x : ∀ (n : Nat) a, μ[n]? = some a → μ'[n]? = some a) : ∀ {d : List D} {v : List L2.V}, RDs K H μ d v → RDs K H' μ' d v
  | _, _, .nil => .nil
  | _, _, .cons h r => .cons (RD.mono t x h) (RDs.mono t x r)
end
theorem RD.step {d : D} {v : L2.V} {Dx : Option Addr} (r : RD K H μ d v) (s : StepD Dx H μ H' μ') : RD K H' μ' d v := RD.mono s.tups (fun _ _ h => s.ix h) r
theorem RDs.step {d : List D} {v : List L2.V} {Dx : Option Addr} (r : RDs K H μ d v) (s : StepD Dx H μ H' μ') : RDs K H' μ' d v := RDs.mono s.tups (fun _ _ h => s.ix h) r
theorem RDs.length : ∀ {ds : List D} {vs : List L2.V}, RDs K H μ ds vs → ds.length = vs.length
  | _, _, .nil => rfl
  | _, _, .cons _ r => by rw [List.length_cons, List.length_cons, RDs.length r]
theorem RDs.get : ∀ {ds : List D} {vs : List L2.V} {i : Nat} {d : D}, RDs K H μ ds vs → ds[i]? = some d → ∃ v, vs[i]? = some v ∧ RD K H μ d v
  | _, _, _, _, .nil, e => by simp at e
  | _, _, 0, _, .cons r _, e => by simp at e; subst e; exact ⟨_, rfl, r⟩
  | _, _, i + 1, _, .cons _ r, e => by
    obtain ⟨v, h1, h2⟩ := RDs.get (i := i) r (by simpa using e)
    exact ⟨v, by simpa using h1, h2⟩
theorem RDs.append : ∀ {ds es : List D} {vs ws : List L2.V}, RDs K H μ ds vs → RDs K H μ es ws → RDs K H μ (ds ++ es) (vs ++ ws)
  | _, _, _, _, .nil, q => q
  | _, _, _, _, .cons r t, q => .cons r (RDs.append t q)
theorem RDs.take : ∀ {ds : List D} {vs : List L2.V} (n : Nat), RDs K H μ ds vs → RDs K H μ (ds.take n) (vs.take n)
  | _, _, 0, _ => by rw [List.take_zero, List.take_zero]; exact .nil
  | _, _, _ + 1, .nil => .nil
  | _, _, n + 1, .cons r t => .cons r (RDs.take n t)
theorem RDs.drop : ∀ {ds : List D} {vs : List L2.V} (n : Nat), RDs K H μ ds vs → RDs K H μ (ds.drop n) (vs.drop n)
  | _, _, 0, q => q
  | _, _, _ + 1, .nil => .nil
  | _, _, n + 1, .cons _ t => RDs.drop n t
theorem RDs.set {d : D} {v : L2.V} (r : RD K H μ d v) : ∀ {ds : List D} {vs : List L2.V} (n : Nat), RDs K H μ ds vs → RDs K H μ (ds.set n d) (vs.set n v)
  | _, _, _, .nil => .nil
  | _, _, 0, .cons _ t => .cons r t
  | _, _, n + 1, .cons q t => .cons q (RDs.set r n t)
theorem RDs.rev {ds : List D} {vs : List L2.V} (h : RDs K H μ ds vs) : RDs K H μ ds.reverse vs.reverse := by
  induction h using RDs.rec (motive_1 := fun _ _ _ => True) with
  | nil => exact .nil
  | cons r _ _ ih => rw [List.reverse_cons, List.reverse_cons]; exact ih.append (.cons r .nil)
  | _ => trivial
theorem RDs.rep {ds : List D} {vs : List L2.V} (h : RDs K H μ ds vs) : ∀ n, RDs K H μ (List.replicate n ds).flatten (List.replicate n vs).flatten
  | 0 => .nil
  | n + 1 => by rw [List.replicate_succ, List.replicate_succ, List.flatten_cons, List.flatten_cons]; exact h.append (RDs.rep h n)
end

def CR (K : PySem.W.Frag) (H : Hp) (μ : List Addr) : Cell → HO → Prop
  | .lst ds, o => ∃ vs, o = .lst vs ∧ RDs K H μ ds vs
  | .dct kvs, o => kvs = [] ∧ o = .dK []
/-- the store as it lies in the heap -/
structure SR (K : PySem.W.Frag) (H : Hp) (μ : List Addr) (S : Store) : Prop where
  len : μ.length = S.length
  nd : μ.Nodup
  cell : ∀ (n : Nat) c a, S[n]? = some c → μ[n]? = some a → ∃ o, H a = some o ∧ CR K H μ c o
section
variable {K : PySem.W.Frag} {H H' : Hp} {μ μ' : List Addr} {S : Store}
theorem SR.get (h : SR K H μ S) {n : Nat} {c : Cell} (e : S[n]? = some c) : ∃ a o, μ[n]? = some a ∧ H a = some o ∧ CR K H μ c o := by
  have hn := (List.getElem?_eq_some_iff.mp e).1
  have hm : n < μ.length := by rw [h.len]; exact hn
  have ea : μ[n]? = some μ[n] := List.getElem?_eq_getElem hm
  obtain ⟨o, h1, h2⟩ := h.cell n c _ e ea
  exact ⟨_, o, ea, h1, h2⟩
theorem SR.there (h : SR K H μ S) {a : Addr} (m : a ∈ μ) : ∃ o, H a = some o ∧ ((∃ vs, o = .lst vs) ∨ o = .dK []) := by
  obtain ⟨n, hn, e⟩ := List.getElem_of_mem m
  have ea : μ[n]? = some a := by rw [List.getElem?_eq_getElem hn, e]
  have hs : n < S.length := by rw [← h.len]; exact hn
  obtain ⟨o, h1, h2⟩ := h.cell n S[n] a (List.getElem?_eq_getElem hs) ea
  refine ⟨o, h1, ?_⟩
  cases ec : S[n] with
  | lst ds => rw [ec] at h2; obtain ⟨vs, e, _⟩ := h2; exact .inl ⟨vs, e⟩
  | dct k => rw [ec] at h2; exact .inr h2.2
theorem CR.mono (t : Im H H') (x : ∀ (n : Nat) a, μ[n]? = some a → μ'[n]? = some a) {c : Cell} {o : HO} (h : CR K H μ c o) : CR K H' μ' c o := by
  cases c with
  | lst ds => obtain ⟨vs, e, r⟩ := h; exact ⟨vs, e, r.mono t x⟩
  | dct k => exact h
/-- everything stays -/
theorem SR.grow (h : SR K H μ S) (k : ∀ a o, H a = some o → H' a = some o) : SR K H' μ S :=
  ⟨h.len, h.nd, fun n c a e1 e2 => by
    obtain ⟨o, h1, h2⟩ := h.cell n c a e1 e2
    exact ⟨o, k a o h1, h2.mono (StepD.grow (D := none) (μ := μ) k).tups fun _ _ z => z⟩⟩
/-- a new cell -/
theorem SR.alloc (h : SR K H μ S) {a : Addr} {o : HO} {c : Cell} (ha : H a = some o) (hn : a ∉ μ) (hc : CR K H μ c o) : SR K H (μ ++ [a]) (S ++ [c]) := by
  have mono : ∀ (n : Nat) b, μ[n]? = Option.some b → (μ ++ [a])[n]? = Option.some b := fun n b e => by
    rw [List.getElem?_append_left (List.getElem?_eq_some_iff.mp e).1]; exact e
  refine ⟨by simp [h.len], List.nodup_append.mpr ⟨h.nd, by simp, fun x hx y hy => by
    rw [List.mem_singleton] at hy; subst hy; exact fun z => hn (z ▸ hx)⟩, fun n d b e1 e2 => ?_⟩
  by_cases hlt : n < S.length
  · rw [List.getElem?_append_left hlt] at e1
    rw [List.getElem?_append_left (by rw [h.len]; exact hlt)] at e2
    obtain ⟨u, h1, h2⟩ := h.cell n d b e1 e2
    exact ⟨u, h1, h2.mono (fun _ _ z => z) mono⟩
  · have hn' : n = S.length := by
      have := (List.getElem?_eq_some_iff.mp e1).1
      simp at this; omega
    subst hn'
    rw [List.getElem?_append_right (Nat.le_refl _), Nat.sub_self] at e1
    rw [← h.len, List.getElem?_append_right (Nat.le_refl _), Nat.sub_self] at e2
    cases e1
    cases e2
    exact ⟨o, ha, hc.mono (fun _ _ z => z) mono⟩
/-- a cell written -/
theorem SR.write (h : SR K H μ S) {n : Nat} {a : Addr} {o : HO} {c : Cell} (ea : μ[n]? = Option.some a) (hc : CR K H μ c o) (nt : ∀ u, ¬ Imm H a u) : SR K (upd H a o) μ (S.set n c) ∧ Step H μ (upd H a o) μ := by
  have ham : a ∈ μ := List.mem_of_getElem? ea
  have tups : Im H (upd H a o) := im_upd nt
  refine ⟨⟨by rw [List.length_set, h.len], h.nd, fun k d b e1 e2 => ?_⟩, StepD.mk' (fun b u hb hn => ?_) tups (fun b hb => ?_) ⟨[], by simp, by simp⟩⟩
  · by_cases hk : k = n
    · subst hk
      rw [ea] at e2; cases e2
      rw [List.getElem?_set_self (by have := (List.getElem?_eq_some_iff.mp e1).1; simpa using this)] at e1
      cases e1
      exact ⟨o, upd_same, hc.mono tups fun _ _ z => z⟩
    · rw [List.getElem?_set_ne (Ne.symm hk)] at e1
      have hne : b ≠ a := fun z => by
        subst z
        obtain ⟨h1, g1⟩ := List.getElem?_eq_some_iff.mp ea
        obtain ⟨h2, g2⟩ := List.getElem?_eq_some_iff.mp e2
        exact hk ((List.getElem_inj h.nd).mp (g2.trans g1.symm))
      obtain ⟨u, h1, h2⟩ := h.cell k d b e1 e2
      exact ⟨u, by rw [upd_ne hne]; exact h1, h2.mono tups fun _ _ z => z⟩
  · rw [upd_ne (fun z => hn (by rw [z]; exact ham))]; exact hb
  · by_cases z : b = a
    · rw [z, upd_same] at hb; cases hb
    · rw [upd_ne z] at hb; exact hb
end
end Q
end
section
-- Snd2
set_option Elab.async false
set_option linter.all false
set_option maxRecDepth 100000
namespace Q
open PySem PySem.Spec PyProof.Rows L2

/-- the slots -/
structure RE (K : PySem.W.Frag) (H : Hp) (μ : List Addr) (ρ : Env) (σ : L2.St) : Prop where
  len : ρ.length = σ.length
  at_ : ∀ (i : Nat) d, ρ[i]? = some (some d) → ∃ v, σ[i]? = some (some v) ∧ RD K H μ d v
/-- what an expression gives, from the heap Hb on -/
def RR (K : PySem.W.Frag) (Hb H : Hp) (μ : List Addr) : R → L2.V → Prop
  | .v d, v => RD K H μ d v
  | .t ds, v => ∃ a vs, v = .ref a ∧ Hb a = none ∧ H a = some (.lst vs) ∧ a ∉ μ ∧ RDs K H μ ds vs
/-- how an exception lies -/
abbrev RXT := PySem.W.Frag → List Addr → Exn → Value → Option Addr → Hp → Prop
section
variable {K : PySem.W.Frag} {H H' H1 : Hp} {μ μ' μ1 : List Addr} {S S' : Store} {ρ : Env} {σ : L2.St}
theorem RE.step {Dx : Option Addr} (h : RE K H μ ρ σ) (s : StepD Dx H μ H' μ') : RE K H' μ' ρ σ := ⟨h.len, fun i d e => by
  obtain ⟨v, h1, h2⟩ := h.at_ i d e
  exact ⟨v, h1, h2.step s⟩⟩
theorem RE.set (h : RE K H μ ρ σ) {d : D} {v : L2.V} (r : RD K H μ d v) (i : Nat) : RE K H μ (ρ.set i (some d)) (σ.set i (some v)) := by
  refine ⟨by simp [h.len], fun j e hj => ?_⟩
  by_cases z : i = j
  · subst z
    have hl : i < ρ.length := by have := (List.getElem?_eq_some_iff.mp hj).1; simpa using this
    rw [List.getElem?_set_self hl] at hj
    cases hj
    exact ⟨v, List.getElem?_set_self (by rw [← h.len]; exact hl), r⟩
  · rw [List.getElem?_set_ne z] at hj
    obtain ⟨u, h1, h2⟩ := h.at_ j e hj
    exact ⟨u, by rw [List.getElem?_set_ne z]; exact h1, h2⟩
theorem RE.wipe (h : RE K H μ ρ σ) : ∀ l : List Nat, RE K H μ (Q.wipe ρ l) (L2.wipe σ l)
  | [] => h
  | i :: r => by
    have ih := RE.wipe h r
    refine ⟨by show ((Q.wipe ρ r).set i none).length = ((L2.wipe σ r).set i none).length; simp [ih.len], fun j e hj => ?_⟩
    have hj : ((Q.wipe ρ r).set i none)[j]? = some (some e) := hj
    by_cases z : i = j
    · subst z
      by_cases hl : i < (Q.wipe ρ r).length
      · rw [List.getElem?_set_self hl] at hj; cases hj
      · rw [List.getElem?_eq_none (by simpa using hl)] at hj; cases hj
    · rw [List.getElem?_set_ne z] at hj
      obtain ⟨u, h1, h2⟩ := ih.at_ j e hj
      exact ⟨u, by show ((L2.wipe σ r).set i none)[j]? = _; rw [List.getElem?_set_ne z]; exact h1, h2⟩
theorem RR.step {Hb : Hp} {r : R} {v : L2.V} (h : RR K Hb H μ r v) (s : Step H μ H' μ') : RR K Hb H' μ' r v := by
  cases r with
  | v d => exact RD.step (show RD K H μ d v from h) s
  | t ds =>
    obtain ⟨a, vs, e, h0, h1, h2, h3⟩ := h
    exact ⟨a, vs, e, h0, s.keep a _ h1 h2, s.notin h1 h2, h3.step s⟩
theorem RR.base {Hb Hc : Hp} {r : R} {v : L2.V} (h : RR K Hb H μ r v) (l : ∀ a, Hb a = none → Hc a = none) : RR K Hc H μ r v := by
  cases r with
  | v d => exact h
  | t ds =>
    obtain ⟨a, vs, e, h0, h1, h2, h3⟩ := h
    exact ⟨a, vs, e, l a h0, h1, h2, h3⟩

/-- what comes of a result, from H, μ on -/
def Out (RX : RXT) (K : PySem.W.Frag) (E : XK) (H : Hp) (μ : List Addr) {α : Type} (r : Res α) (post : α → Store → Hp → List Addr → Prop) : Prop :=
  match r with
  | .ok a S' => ∀ H' μ', Step H μ H' μ' → SR K H' μ' S' → post a S' H' μ'
  | .err x S' => ∀ H' μ' cls d, Step H μ H' μ' → SR K H' μ' S' → RX K μ' x cls d H' → E cls d H'
  | .bad => False
variable {RX : RXT} {E E' : XK} {α β : Type} {H0 : Hp} {μ0 : List Addr}
theorem Out.imp {r : Res α} {p q : α → Store → Hp → List Addr → Prop} (h : Out RX K E H μ r p) (f : ∀ a S' H' μ', Step H μ H' μ' → SR K H' μ' S' → p a S' H' μ' → q a S' H' μ') : Out RX K E H μ r q := by
  cases r with
  | ok a S' => exact fun H' μ' s t => f a S' H' μ' s t (h H' μ' s t)
  | err x S' => exact h
  | bad => exact h
theorem Out.impE {r : Res α} {p : α → Store → Hp → List Addr → Prop} (h : Out RX K E H μ r p) (f : ∀ c d H', E c d H' → E' c d H') : Out RX K E' H μ r p := by
  cases r with
  | ok a S' => exact h
  | err x S' => exact fun H' μ' c d s t z => f c d H' (h H' μ' c d s t z)
  | bad => exact h
/-- one after another -/
theorem Out.bind {r : Res α} {g : α → Store → Res β} {p : β → Store → Hp → List Addr → Prop} (st : Step H0 μ0 H μ) (h : Out RX K E H0 μ0 (r.bind g) p) :
    Out RX K E H μ r fun a S' H' μ' => Step H0 μ0 H' μ' ∧ SR K H' μ' S' ∧ Step H μ H' μ' ∧ Out RX K E H0 μ0 (g a S') p := by
  cases r with
  | ok a S' => exact fun H' μ' s t => ⟨st.trans s, t, s, h⟩
  | err x S' => exact fun H' μ' c d s t z => h H' μ' c d (st.trans s) t z
  | bad => exact h
theorem Out.at {r : Res α} {p : α → Store → Hp → List Addr → Prop} (st : Step H0 μ0 H μ) (h : Out RX K E H0 μ0 r p) : Out RX K E H μ r fun a S' H' μ' => p a S' H' μ' := by
  cases r with
  | ok a S' => exact fun H' μ' s t => h H' μ' (st.trans s) t
  | err x S' => exact fun H' μ' c d s t z => h H' μ' c d (st.trans s) t z
  | bad => exact h
theorem Out.opt {o : Option α} {g : α → Res β} {p : β → Store → Hp → List Addr → Prop} (h : Out RX K E H μ (Q.opt o g) p) : ∃ a, o = some a ∧ Out RX K E H μ (g a) p := by
  cases o with
  | none => exact False.elim h
  | some a => exact ⟨a, rfl, h⟩
/-- a list that nobody holds comes into the store -/
theorem Out.settle {Hb : Hp} {r : R} {v : L2.V} {g : D → Store → Res β} {p : β → Store → Hp → List Addr → Prop} (st : Step H0 μ0 H μ) (t : SR K H μ S) (hr : RR K Hb H μ r v) (hb : ∀ a, Hb a = none → H0 a = none) (h : Out RX K E H0 μ0 (Q.settle r S g) p) :
    ∃ d S' μ', Step H0 μ0 H μ' ∧ SR K H μ' S' ∧ RD K H μ' d v ∧ (∀ (n : Nat) a, μ[n]? = some a → μ'[n]? = some a) ∧ (∀ b ∈ μ', b ∈ μ ∨ Hb b = none) ∧ Out RX K E H0 μ0 (g d S') p := by
  cases r with
  | v d => exact ⟨d, S, μ, st, t, hr, fun _ _ z => z, fun _ z => .inl z, h⟩
  | t ds =>
    obtain ⟨a, vs, e, h0, h1, h2, h3⟩ := hr
    subst e
    obtain ⟨ν, e, hν⟩ := st.pre
    have mono : ∀ (n : Nat) b, μ[n]? = some b → (μ ++ [a])[n]? = some b := fun n b z => by
      rw [List.getElem?_append_left (List.getElem?_eq_some_iff.mp z).1]; exact z
    refine ⟨_, _, μ ++ [a], StepD.mk' st.keep st.tups st.live ⟨ν ++ [a], by rw [e, List.append_assoc], fun b hb' => ?_⟩, t.alloc (c := .lst ds) h1 h2 ⟨vs, rfl, h3⟩, .ref ?_, mono, fun b z => ?_, h⟩
    · rcases List.mem_append.mp hb' with z | z
      · exact hν b z
      · rw [List.mem_singleton] at z; subst z; exact hb _ h0
    · rw [← t.len, List.getElem?_append_right (Nat.le_refl _), Nat.sub_self]; rfl
    · rcases List.mem_append.mp z with z | z
      · exact .inl z
      · rw [List.mem_singleton] at z; subst z; exact .inr h0
/-- no exception -/
theorem Out.calm {r : Res α} {g : α → Store → Res β} {p : β → Store → Hp → List Addr → Prop} (h : Out RX K E H μ ((Q.calm r).bind g) p) : Out RX K (fun _ _ _ => False) H μ r fun a S' H' μ' => Out RX K E H μ (g a S') p := by
  cases r with
  | ok a S' => exact fun H' μ' s t => h
  | err x S' => exact h.elim
  | bad => exact h
end
theorem Res.assoc {α β γ : Type} (r : Res α) (f : α → Store → Res β) (g : β → Store → Res γ) : (r.bind f).bind g = r.bind fun a S => (f a S).bind g := by
  cases r <;> rfl
theorem settle_bind {β γ : Type} (r : R) (S : Store) (f : D → Store → Res β) (g : β → Store → Res γ) : (settle r S f).bind g = settle r S fun d S => (f d S).bind g := by
  cases r <;> rfl
/-- the slots but those of l are the same -/
structure SameS (σ σ' : L2.St) (l : List Nat) : Prop where
  len : σ'.length = σ.length
  at_ : ∀ i, i ∉ l → σ'[i]? = σ[i]?
theorem wipe_get (σ : L2.St) (i : Nat) : ∀ l : List Nat, (L2.wipe σ l)[i]? = if i ∈ l then (if i < σ.length then some none else none) else σ[i]?
  | [] => by simp [L2.wipe]
  | j :: l => by
    show ((L2.wipe σ l).set j none)[i]? = _
    by_cases h : j = i
    · subst h
      rw [if_pos List.mem_cons_self]
      by_cases hl : j < σ.length
      · rw [if_pos hl, List.getElem?_set_self (by rw [L2.wipe_length]; exact hl)]
      · rw [if_neg hl, List.getElem?_eq_none (by rw [List.length_set, L2.wipe_length]; omega)]
    · rw [List.getElem?_set_ne h, wipe_get σ i l]
      have : (i ∈ j :: l) ↔ i ∈ l := by
        rw [List.mem_cons]
        exact ⟨fun z => z.elim (fun z => absurd z.symm h) id, .inr⟩
      by_cases hm : i ∈ l
      · rw [if_pos hm, if_pos (this.mpr hm)]
      · rw [if_neg hm, if_neg (fun z => hm (this.mp z))]
theorem SameS.wipe {σ σ' : L2.St} {l : List Nat} (h : SameS σ σ' l) : L2.wipe σ' l = L2.wipe σ l := by
  apply List.ext_getElem?
  intro i
  rw [wipe_get, wipe_get, h.len]
  by_cases hm : i ∈ l
  · rw [if_pos hm, if_pos hm]
  · rw [if_neg hm, if_neg hm, h.at_ i hm]
theorem wipe_wipe (σ : L2.St) (l : List Nat) : L2.wipe (L2.wipe σ l) l = L2.wipe σ l := by
  apply List.ext_getElem?
  intro i
  rw [wipe_get, wipe_get, L2.wipe_length]
  by_cases hm : i ∈ l
  · rw [if_pos hm, if_pos hm]
  · rw [if_neg hm, if_neg hm]
theorem SameS.refl {σ : L2.St} {l : List Nat} : SameS σ σ l := ⟨rfl, fun _ _ => rfl⟩
theorem SameS.set {σ : L2.St} (i : Nat) (v : Option L2.V) : SameS σ (σ.set i v) [i] := ⟨by simp, fun j h => by
  rw [List.getElem?_set_ne]
  intro z
  exact h (by simp [z])⟩
theorem SameS.trans {σ σ1 σ2 : L2.St} {l l' : List Nat} (a : SameS σ σ1 l) (b : SameS σ1 σ2 l') : SameS σ σ2 (l ++ l') := ⟨b.len.trans a.len, fun i h => by
  rw [List.mem_append, not_or] at h
  rw [b.at_ i h.2, a.at_ i h.1]⟩

/-! ### readings -/
section
variable (RX : RXT) (K : PySem.W.Frag)
def tE (W : WX) (f : Env → Store → Res R) : TE := fun σ H Q => ∃ ρ μ S, SR K H μ S ∧ RE K H μ ρ σ ∧ Out RX K (fun c d H' => W c d σ H') H μ (f ρ S) fun r S' H' μ' => ∀ v, RR K H H' μ' r v → Q v H'
def tT (W : WX) (f : Env → Store → Res Bool) : TT := fun σ H Q => ∃ ρ μ S, SR K H μ S ∧ RE K H μ ρ σ ∧ Out RX K (fun c d H' => W c d σ H') H μ (f ρ S) fun b S' H' μ' => Q b H'
def tA (W : WX) (f : Env → Store → Res (List D)) : TA := fun σ H Q => ∃ ρ μ S, SR K H μ S ∧ RE K H μ ρ σ ∧ Out RX K (fun c d H' => W c d σ H') H μ (f ρ S) fun ds S' H' μ' => ∀ vs, RDs K H' μ' ds vs → Q vs H'
/-- a target, given a value -/
def tG (l : List Nat) (f : D → Env → Store → Res Env) : TG := fun v σ H Q => ∃ d ρ μ S, RD K H μ d v ∧ SR K H μ S ∧ RE K H μ ρ σ ∧ Out RX K (fun _ _ _ => False) H μ (f d ρ S) fun ρ' S' H' μ' => ∀ σ', RE K H' μ' ρ' σ' → SameS σ σ' l → Q σ' H'
def tGs (l : List Nat) (f : List D → Env → Store → Res Env) : TGs := fun v σ H Q => ∃ d ρ μ S, RDs K H μ d v ∧ SR K H μ S ∧ RE K H μ ρ σ ∧ Out RX K (fun _ _ _ => False) H μ (f d ρ S) fun ρ' S' H' μ' => ∀ σ', RE K H' μ' ρ' σ' → SameS σ σ' l → Q σ' H'
end
/-- a value's truth -/
def tru (f : Res R) : Res Bool := f.bind fun x S => Q.opt (truth S x) fun k => .ok k S
theorem _root_.L2.PE.imp {X : Cx} {e : Expr} {t t' : TE} (h : PE X e t) (f : ∀ σ H Q, t' σ H Q → t σ H Q) : PE X e t' := ⟨fun pins s σ H Q I z => h.run pins s σ H Q I (f σ H Q z)⟩
theorem _root_.L2.PT.imp {X : Cx} {e : Expr} {t t' : TT} (h : PT X e t) (f : ∀ σ H Q, t' σ H Q → t σ H Q) : PT X e t' := ⟨fun pins s σ H Q I z => h.run pins s σ H Q I (f σ H Q z)⟩
theorem _root_.L2.PA.imp {X : Cx} {e : List Expr} {t t' : TA} (h : PA X e t) (f : ∀ σ H Q, t' σ H Q → t σ H Q) : PA X e t' := ⟨fun pos pins s σ H Q I z => h.run pos pins s σ H Q I (f σ H Q z)⟩
theorem _root_.L2.PG.imp {X : Cx} {e : Expr} {t t' : TG} (h : PG X e t) (f : ∀ v σ H Q, t' v σ H Q → t v σ H Q) : PG X e t' := ⟨fun pins s σ H v u Q I r z => h.run pins s σ H v u Q I r (f v σ H Q z)⟩
theorem _root_.L2.PS.imp {X : Cx} {e : Stmt} {t t' : TS} (h : PS X e t) (f : ∀ D σ H, t' D σ H → t D σ H) : PS X e t' := ⟨fun pins s σ H D I z => h.run pins s σ H D I (f D σ H z)⟩
theorem _root_.L2.PSs.imp {X : Cx} {e : List Stmt} {t t' : TS} (h : PSs X e t) (f : ∀ D σ H, t' D σ H → t D σ H) : PSs X e t' := ⟨fun pins s σ H D I z => h.run pins s σ H D I (f D σ H z)⟩
end Q
end
section
-- Snd3
set_option Elab.async false
set_option linter.all false
set_option maxRecDepth 100000
set_option maxHeartbeats 4000000
namespace Q
open PySem PySem.Spec PyProof.Rows L2

/-! ### tuple * int, the other ways -/
theorem tuple_mulSame (l : Addr) (items : Array Value) (n : Nat) (dd : Option Addr) (sl : Array (Option Value)) (x : Int) (u : Tok) (inLine : (decide (x < -(2 ^ 63)) || decide (x ≥ 2 ^ 63)) = false) (isSame : (items.isEmpty || x == 1) = true) :
    Meets (Builtin.«tuple.__mul__» ⟨[.ref l, .int x u], []⟩) (fun _ R s => s.heap.get? l = some { cls := .type "tuple", dict := dd, data := .seq items n, slots := sl } ∧
      R (.ok (.ret (Value.ref l))) s) :=
  .of_wp fun prog w A R s h => by
    obtain ⟨heap0, g, d, tok, os0⟩ := s
    obtain ⟨tupAt, h⟩ := h
    have ixi := AutoSeq1.idx_int
    wp_walk using wpAny_loadPart' tupAt
    repeat (first
      | (refine wpAny_ite_false (decide_eq_false (by rw [inLine]; exact Bool.false_ne_true)) ?_; wp_walk using wpAny_loadPart' tupAt)
      | (refine wpAny_ite_true (decide_eq_true (by rw [isSame])) ?_; wp_walk using wpAny_loadPart' tupAt))
    exact ⟨_, rfl, h⟩
theorem tuple_mulNone (l : Addr) (items : Array Value) (n : Nat) (dd : Option Addr) (sl : Array (Option Value)) (x : Int) (u : Tok) (inLine : (decide (x < -(2 ^ 63)) || decide (x ≥ 2 ^ 63)) = false) (isSame : (items.isEmpty || x == 1) = false) (isNone : (decide (x ≤ 0) || items.isEmpty) = true) :
    Meets (Builtin.«tuple.__mul__» ⟨[.ref l, .int x u], []⟩) (fun _ R s => s.heap.get? l = some { cls := .type "tuple", dict := dd, data := .seq items n, slots := sl } ∧
      R (.ok (.ret (Value.ref s.heap.objs.size))) { s with heap := s.heap.push { cls := Value.type "tuple", data := Data.seq #[] }, toks := s.toks }) :=
  .of_wp fun prog w A R s h => by
    obtain ⟨heap0, g, d, tok, os0⟩ := s
    obtain ⟨tupAt, h⟩ := h
    have ixi := AutoSeq1.idx_int
    wp_walk using wpAny_loadPart' tupAt
    repeat (first
      | (refine wpAny_ite_false (decide_eq_false (by rw [inLine]; exact Bool.false_ne_true)) ?_; wp_walk using wpAny_loadPart' tupAt)
      | (refine wpAny_ite_false (decide_eq_false (by rw [isSame]; exact Bool.false_ne_true)) ?_; wp_walk using wpAny_loadPart' tupAt)
      | (refine wpAny_ite_true (decide_eq_true (by rw [isNone])) ?_; wp_walk using wpAny_loadPart' tupAt))
    exact ⟨_, rfl, h⟩

theorem op_repA0 {X : Cx} {pins : List (Addr × Obj)} {s : Shared} {σ : L2.St} {H : Hp} {l : Addr} {k : Int} {xs : List L2.V} {v u : Value} {Q : VK} (I : Inv X pins σ H s) (rx : RelV (.ref l) v) (ry : RelV (.int k) u) (hT : SqT X.K H l xs) (h0 : 0 ≤ k) (h1 : k ≤ 1000)
    (hc : (xs.isEmpty || k == 1) = true) (q : Q (.ref l) H) : wpAny (model X.prog X.w) X.A (binaryOp .Mult v u) (EP X pins σ Q) X.xe s := by
  cases rx
  obtain ⟨t, rfl⟩ := ry
  obtain ⟨its, r, ⟨⟨cls, dd, data, sl⟩, ho, hc', n, hd⟩, hs⟩ := I.tuple hT
  simp only at hc' hd
  subst hc' hd
  have same1 : (its.toArray.isEmpty || k == 1) = true := by
    cases r <;> simpa using hc
  have inLine : (decide (k < -(2 ^ 63)) || decide (k ≥ 2 ^ 63)) = false := by
    rw [decide_eq_false (by omega), decide_eq_false (by omega)] <;> rfl
  exact wpAny_binaryOp_repeat_ref (T := "tuple") (U := "int") (by decide) ⟨_, ho, rfl⟩ (fun s' => typeIs_int s' k t) noFill_tuple_mul F.fills_int_mul F.slot_int_rmul repeat_tuple F.slot_int_index.lookup
    (call_meets F.slot_int_rmul (typeIs_int s k t) F.entry_int_rmul (F.args_int_rmul_2 _ _) (int_rmul_tuple k t l its.toArray n dd sl)
      ⟨ho, rfl, ⟨_, ho, rfl⟩, call_meets F.slot_tuple_mul ⟨_, ho, rfl⟩ F.entry_tuple_mul (F.args_tuple_mul_2 _ _) (tuple_mulSame l its.toArray n dd sl k t inLine same1) ⟨ho, .ref l, H, I, rfl, q⟩⟩)
theorem op_repA1 {X : Cx} {pins : List (Addr × Obj)} {s : Shared} {σ : L2.St} {H : Hp} {l : Addr} {xs : List L2.V} {v u : Value} {Q : VK} (I : Inv X pins σ H s) (rx : RelV (.ref l) v) (ry : RelV (.int 0) u) (hT : SqT X.K H l xs)
    (hne : xs.isEmpty = false) (q : ∀ p, H p = none → Q (.ref p) (upd H p (.tup []))) : wpAny (model X.prog X.w) X.A (binaryOp .Mult v u) (EP X pins σ Q) X.xe s := by
  cases rx
  obtain ⟨t, rfl⟩ := ry
  obtain ⟨its, r, ⟨⟨cls, dd, data, sl⟩, ho, hc', n, hd⟩, hs⟩ := I.tuple hT
  simp only at hc' hd
  subst hc' hd
  have same1 : (its.toArray.isEmpty || (0 : Int) == 1) = false := by
    cases r <;> simp_all
  refine wpAny_binaryOp_repeat_ref (T := "tuple") (U := "int") (by decide) ⟨_, ho, rfl⟩ (fun s' => typeIs_int s' 0 t) noFill_tuple_mul F.fills_int_mul F.slot_int_rmul repeat_tuple F.slot_int_index.lookup
    (call_meets F.slot_int_rmul (typeIs_int s 0 t) F.entry_int_rmul (F.args_int_rmul_2 _ _) (int_rmul_tuple 0 t l its.toArray n dd sl)
      ⟨ho, rfl, ⟨_, ho, rfl⟩, call_meets F.slot_tuple_mul ⟨_, ho, rfl⟩ F.entry_tuple_mul (F.args_tuple_mul_2 _ _) (tuple_mulNone l its.toArray n dd sl 0 t (by decide) same1 (by rfl)) ⟨ho, ?_⟩⟩)
  have hn : H s.heap.objs.size = none := I.hok.fresh (Nat.le_refl _)
  refine ⟨.ref s.heap.objs.size, _, I.laid (o := .tup []) (t' := s.toks) (fun b o e => Heap.get?_push_of_some _ e) (Nat.le_refl _) ⟨Nat.zero_le _, [], .nil, ?_⟩, rfl, q _ hn⟩
  exact ⟨_, Heap.get?_push_size s.heap rfl, rfl, _, rfl⟩

/-! ### what is new -/
section
variable {K : PySem.W.Frag} {H H0 : Hp} {μ μ0 : List Addr} {S : Store}
theorem not_in (t : SR K H μ S) {p : Addr} (heap0 : H p = none) : p ∉ μ := fun m => by
  obtain ⟨o, h, _⟩ := t.there m
  rw [heap0] at h; cases h
theorem Step.new (st : Step H0 μ0 H μ) {p : Addr} {o : HO} (heap0 : H p = none) : Step H0 μ0 (upd H p o) μ := st.trans (StepD.grow (D := none) (grow_upd heap0))
theorem SR.new (t : SR K H μ S) {p : Addr} {o : HO} (heap0 : H p = none) : SR K (upd H p o) μ S := t.grow (grow_upd heap0)
theorem RD.new {d : D} {v : L2.V} (r : RD K H μ d v) {p : Addr} {o : HO} (heap0 : H p = none) : RD K (upd H p o) μ d v := r.step (StepD.grow (D := none) (grow_upd heap0))
theorem RDs.new {d : List D} {v : List L2.V} (r : RDs K H μ d v) {p : Addr} {o : HO} (heap0 : H p = none) : RDs K (upd H p o) μ d v := r.step (StepD.grow (D := none) (grow_upd heap0))
theorem new_tup {ds : List D} {vs : List L2.V} (r : RDs K H μ ds vs) {p : Addr} (heap0 : H p = none) : RD K (upd H p (.tup vs)) μ (.tup ds) (.ref p) := .tup (SqT.of upd_same) (r.new heap0)
theorem new_lst (st : Step H0 μ0 H μ) (t : SR K H μ S) {ds : List D} {vs : List L2.V} (r : RDs K H μ ds vs) {p : Addr} (heap0 : H p = none) : RR K H0 (upd H p (.lst vs)) μ (.t ds) (.ref p) :=
  ⟨p, vs, rfl, st.live p heap0, upd_same, not_in t heap0, r.new heap0⟩
theorem seq_tup {a : R} {v : L2.V} {ds : List D} (t : SR K H μ S) (r : RR K H0 H μ a v) (e : seqOf S a = some (true, ds)) : a = .v (.tup ds) ∧ ∃ p vs, v = .ref p ∧ SqT K H p vs ∧ RDs K H μ ds vs := by
  unfold seqOf at e
  split at e
  · cases e
  · split at e
    · cases e
      cases (show RD K H μ _ v from r) with
      | tup h q => exact ⟨rfl, _, _, rfl, h, q⟩
    · split at e <;> cases e
    · cases e
theorem seq_lst {a : R} {v : L2.V} {ds : List D} (t : SR K H μ S) (r : RR K H0 H μ a v) (e : seqOf S a = some (false, ds)) : ∃ p vs, v = .ref p ∧ H p = some (.lst vs) ∧ RDs K H μ ds vs := by
  unfold seqOf at e
  split at e
  · cases e
    obtain ⟨p, vs, e1, _, h, _, q⟩ := r
    exact ⟨p, vs, e1, h, q⟩
  · split at e
    · cases e
    · rename_i n
      split at e
      · rename_i ds' hs
        cases e
        cases (show RD K H μ _ v from r) with
        | ref hm =>
          obtain ⟨o, h1, vs, h2, h3⟩ := t.cell n _ _ hs hm
          subst h2
          exact ⟨_, vs, rfl, h1, h3⟩
      · cases e
    · cases e
end

/-! ### operators -/
section
variable {X : Cx} {RX : RXT}
/-- the answer of an operation on values -/
def rV (RX : RXT) (K : PySem.W.Frag) (f : Store → R → R → Res R) : R2 := fun x y H Q => ∃ E H0 μ0 μ S a b, Step H0 μ0 H μ ∧ SR K H μ S ∧ RR K H0 H μ a x ∧ RR K H0 H μ b y ∧ Out RX K E H0 μ0 (f S a b) fun r S' H' μ' => ∀ v, RR K H0 H' μ' r v → Q v H'
theorem rd_int {K : PySem.W.Frag} {H : Hp} {μ : List Addr} {i : Int} {v : L2.V} (r : RD K H μ (.int i) v) : v = .int i := by cases r; rfl
theorem rd_bl {K : PySem.W.Frag} {H : Hp} {μ : List Addr} {i : Bool} {v : L2.V} (r : RD K H μ (.bl i) v) : v = .bl i := by cases r; rfl
theorem rd_str {K : PySem.W.Frag} {H : Hp} {μ : List Addr} {i : Str} {v : L2.V} (r : RD K H μ (.str i) v) : v = .str i := by cases r; rfl
theorem rd_non {K : PySem.W.Frag} {H : Hp} {μ : List Addr} {v : L2.V} (r : RD K H μ .non v) : v = .non := by cases r; rfl
theorem op_fdivX : OpR X (binaryOp .FloorDiv) (rI (fun _ j => divOk j = true) fun i j => .int (i.fdiv j)) := opI fun i j _ _ _ _ _ hc q => by
  unfold divOk at hc
  rw [Bool.and_eq_true] at hc
  exact floordiv_int (by simpa using hc.2) q (.inl (PyProof.noPylong_of_log2 (Nat.blt_eq.mp hc.1)))
theorem op_powX : OpR X (binaryOp .Pow) (rI (fun i j => 0 ≤ j ∧ j ≤ 1000 ∧ i.natAbs.log2 < 1000) fun i j => .int (i ^ j.toNat)) := opI fun i j _ _ _ _ _ hc q => by
  obtain ⟨h1, h2, h3⟩ := hc
  refine pow_int h1 ?_ q
  have b : Builtin.Int.intBits i ≤ i.natAbs.log2 + 1 := by
    unfold Builtin.Int.intBits
    split <;> omega
  have b2 : (Builtin.Int.intBits i : Int) ≤ 1000 := by omega
  have b3 : (Builtin.Int.intBits i : Int) * j ≤ 1000 * 1000 := Int.mul_le_mul b2 h2 h1 (by decide)
  have : (1000 * 1000 : Int) ≤ 2 ^ 27 := by decide
  omega
theorem op_bin (o : Operator) : OpR X (binaryOp o) (rV RX X.K (evBin o)) := by
  intro pins s σ H x y v u Q I rx ry ⟨E, H0, μ0, μ, S, a, b, st, t, ha, hb, h⟩
  cases o with
  | Add =>
    by_cases same1 : ∃ i j, a = .v (.int i) ∧ b = .v (.int j)
    · obtain ⟨i, j, rfl, rfl⟩ := same1
      exact op_add pins s σ H x y v u Q I rx ry ⟨i, j, rd_int ha, rd_int hb, h H μ st t _ (.int _)⟩
    by_cases hs : ∃ i j, a = .v (.str i) ∧ b = .v (.str j)
    · obtain ⟨i, j, rfl, rfl⟩ := hs
      have h : Out RX X.K E H0 μ0 (if Nat.ble (i.length + j.length) szl then _ else _) _ := h
      split at h
      · rename_i hz
        exact op_add_str pins s σ H x y v u Q I rx ry ⟨i, j, rd_str ha, rd_str hb, by rw [sizeLine_eq]; exact Nat.ble_eq.mp hz, h H μ st t _ (.str _)⟩
      · exact h.elim
    by_cases ht : ∃ i j, a = .v (.tup i) ∧ b = .v (.tup j)
    · obtain ⟨i, j, rfl, rfl⟩ := ht
      have h : Out RX X.K E H0 μ0 (if Nat.ble (i.length + j.length) szl then _ else _) _ := h
      split at h
      · rename_i hz
        cases (show RD X.K H μ _ x from ha) with
        | tup h1 q1 =>
          cases (show RD X.K H μ _ y from hb) with
          | tup h2 q2 =>
            refine op_catA pins s σ H _ _ v u Q I rx ry ⟨_, _, _, _, rfl, rfl, h1, h2, ?_, ?_, ?_, ?_⟩
            · rw [← q1.length, ← q2.length, sizeLine_eq]; exact Nat.ble_eq.mp hz
            · intro e
              subst e
              cases q1
              exact h H μ st t _ (.tup h2 q2)
            · intro _ e
              subst e
              cases q2
              refine h H μ st t _ (.tup h1 ?_)
              rw [List.append_nil]; exact q1
            · intro _ _ p heap0
              exact h _ μ (st.new heap0) (t.new heap0) _ (new_tup (q1.append q2) heap0)
      · exact h.elim
    · have e : evBin .Add S a b = match seqOf S a, seqOf S b with
          | some (false, x), some (false, y) => if Nat.ble (x.length + y.length) szl then .ok (.t (x ++ y)) S else .bad
          | _, _ => .bad := by
        unfold evBin
        dsimp only
        split
        · exact absurd ⟨_, _, rfl, rfl⟩ same1
        · exact absurd ⟨_, _, rfl, rfl⟩ hs
        · exact absurd ⟨_, _, rfl, rfl⟩ ht
        · rfl
      rw [e] at h
      split at h
      · rename_i e1 e2
        obtain ⟨p, vs, rfl, h1, q1⟩ := seq_lst t ha e1
        obtain ⟨p', vs', rfl, h2, q2⟩ := seq_lst t hb e2
        split at h
        · rename_i hz
          refine op_cat pins s σ H _ _ v u Q I rx ry ⟨_, _, _, _, rfl, rfl, h1, h2, ?_, fun r hr => ?_⟩
          · rw [← q1.length, ← q2.length, sizeLine_eq]; exact Nat.ble_eq.mp hz
          · exact h _ μ (st.new hr) (t.new hr) _ (new_lst st t (q1.append q2) hr)
        · exact h.elim
      · exact h.elim
  | Sub =>
    unfold evBin at h
    dsimp only at h
    split at h
    · rename_i i j
      exact op_sub pins s σ H x y v u Q I rx ry ⟨i, j, rd_int ha, rd_int hb, h H μ st t _ (.int _)⟩
    · exact h.elim
  | Mult =>
    unfold evBin at h
    dsimp only at h
    split at h
    · rename_i i j
      split at h
      · rename_i hz
        exact op_mulW pins s σ H x y v u Q I rx ry ⟨i, j, rd_int ha, rd_int hb, Nat.blt_eq.mp hz, h H μ st t _ (.int _)⟩
      · exact h.elim
    · rename_i ds k
      split at h
      · rename_i hz
        rw [Bool.and_eq_true, Bool.and_eq_true] at hz
        obtain ⟨⟨z1, z2⟩, z3⟩ := hz
        have z1 := Nat.ble_eq.mp z1
        have z2 := of_decide_eq_true z2
        have z3 := of_decide_eq_true z3
        have ey := rd_int hb
        subst ey
        cases (show RD X.K H μ _ x from ha) with
        | @tup p vs _ h1 q1 =>
          have tupAt := q1.length
          by_cases hc : (vs.isEmpty || k == 1) = true
          · refine op_repA0 I rx ry h1 z3 z2 hc (h H μ st t _ (.tup h1 ?_))
            rcases (Bool.or_eq_true _ _).mp hc with z | z
            · have ev : vs = [] := List.isEmpty_iff.mp z
              subst ev
              cases q1
              have : (List.replicate k.toNat ([] : List D)).flatten = [] := by simp
              rw [this]; exact .nil
            · have ek : k = 1 := by simpa using z
              subst ek
              have : (List.replicate (1 : Int).toNat ds).flatten = ds := by simp
              rw [this]; exact q1
          · have hv : vs.isEmpty = false := by
              cases e : vs.isEmpty <;> simp_all
            have hk : k ≠ 1 := by
              intro e
              subst e
              simp at hc
            by_cases hk0 : k = 0
            · subst hk0
              exact op_repA1 I rx ry h1 hv fun p heap0 => h _ μ (st.new heap0) (t.new heap0) _ (new_tup .nil heap0)
            · refine op_repT pins s σ H _ _ v u Q I rx ry ⟨_, _, _, rfl, rfl, h1, ?_, by omega, z2, by omega, fun p heap0 => ?_⟩
              · intro e; subst e; simp at hv
              · exact h _ μ (st.new heap0) (t.new heap0) _ (new_tup (q1.rep _) heap0)
      · exact h.elim
    · rename_i k _ _
      split at h
      · rename_i e1
        split at h
        · rename_i hz
          rw [Bool.and_eq_true, Bool.and_eq_true] at hz
          obtain ⟨⟨z1, z2⟩, z3⟩ := hz
          have z1 := Nat.ble_eq.mp z1
          have z2 := of_decide_eq_true z2
          have z3 := of_decide_eq_true z3
          obtain ⟨p, vs, rfl, h1, q1⟩ := seq_lst t ha e1
          have ey := rd_int hb
          subst ey
          refine op_rep pins s σ H _ _ v u Q I rx ry ⟨_, _, _, rfl, rfl, h1, by omega, by omega, ?_, fun p heap0 => ?_⟩
          · have tupAt := q1.length
            have a1 : vs.length * k.toNat ≤ 1000 * 1000 := Nat.mul_le_mul (by omega) (by omega)
            rw [sizeLine_eq]; omega
          · exact h _ μ (st.new heap0) (t.new heap0) _ (new_lst st t (q1.rep _) heap0)
        · exact h.elim
      · exact h.elim
    · exact h.elim
  | FloorDiv =>
    unfold evBin at h
    dsimp only at h
    split at h
    · rename_i i j
      split at h
      · rename_i hz
        exact op_fdivX pins s σ H x y v u Q I rx ry ⟨i, j, rd_int ha, rd_int hb, hz, h H μ st t _ (.int _)⟩
      · exact h.elim
    · exact h.elim
  | Mod =>
    unfold evBin at h
    dsimp only at h
    split at h
    · rename_i i j
      split at h
      · exact h.elim
      · rename_i hz
        exact op_modN pins s σ H x y v u Q I rx ry ⟨i, j, rd_int ha, rd_int hb, by simpa using hz, h H μ st t _ (.int _)⟩
    · exact h.elim
  | Pow =>
    unfold evBin at h
    dsimp only at h
    split at h
    · rename_i i j
      split at h
      · rename_i hz
        rw [Bool.and_eq_true, Bool.and_eq_true] at hz
        exact op_powX pins s σ H x y v u Q I rx ry ⟨i, j, rd_int ha, rd_int hb, ⟨of_decide_eq_true hz.1.1, of_decide_eq_true hz.1.2, Nat.blt_eq.mp hz.2⟩, h H μ st t _ (.int _)⟩
      · exact h.elim
    · exact h.elim
  | _ => exact h.elim
end
end Q
end
section
-- Snd4
set_option Elab.async false
set_option linter.all false
set_option maxRecDepth 100000
set_option maxHeartbeats 4000000
namespace Q
open PySem PySem.Spec PyProof.Rows L2

/-! ### data -/
section
variable {K : PySem.W.Frag} {H H0 : Hp} {μ μ0 : List Addr} {S : Store}
theorem dpAll_of {f : Nat} (ih : ∀ (d : D) (v : L2.V) p, RD K H μ d v → D.py S f d = some p → Dp K H v p) : ∀ (ds : List D) (vs : List L2.V) ps, RDs K H μ ds vs → ds.mapM (D.py S f) = some ps → DpAll K H vs ps
  | [], _, ps, .nil, e => by
    rw [List.mapM_nil] at e
    cases e
    exact .nil
  | d :: ds, _, ps, .cons r rr, e => by
    rw [List.mapM_cons] at e
    cases e1 : D.py S f d with
    | none => rw [e1] at e; cases e
    | some p =>
      rw [e1] at e
      cases e2 : ds.mapM (D.py S f) with
      | none => rw [e2] at e; cases e
      | some ps' =>
        rw [e2] at e
        cases e
        exact .cons (ih d _ p r e1) (dpAll_of ih ds _ ps' rr e2)
theorem dp_of (t : SR K H μ S) : ∀ (f : Nat) (d : D) (v : L2.V) p, RD K H μ d v → D.py S f d = some p → Dp K H v p
  | 0, _, _, _, _, e => by cases e
  | f + 1, _, _, _, .non, e => by cases e; exact .non
  | f + 1, _, _, _, .bl b, e => by cases e; exact .bl b
  | f + 1, _, _, _, .int i, e => by cases e; exact .int i
  | f + 1, _, _, _, .str x, e => by cases e; exact .str x
  | f + 1, _, _, _, .tup (ds := ds) h r, e => by
    have e : (ds.mapM (D.py S f)).map PyData.tuple = some _ := e
    cases e2 : ds.mapM (D.py S f) with
    | none => rw [e2] at e; cases e
    | some ps =>
      rw [e2] at e
      cases e
      exact .tup h (dpAll_of (dp_of t f) _ _ ps r e2)
  | f + 1, _, _, _, .ref (n := n) hm, e => by
    unfold D.py at e
    dsimp only at e
    split at e
    · rename_i ds hs
      obtain ⟨o, h1, vs, h2, h3⟩ := t.cell n _ _ hs hm
      subst h2
      cases e2 : ds.mapM (D.py S f) with
      | none => rw [e2] at e; cases e
      | some ps =>
        rw [e2] at e
        cases e
        exact .lst (SqL.of h1) (dpAll_of (dp_of t f) _ _ ps h3 e2)
    · cases e
  | f + 1, _, _, _, .fl h r, e => by unfold D.py at e; dsimp only at e; cases e
theorem dpR {a : R} {v : L2.V} {p : PyData} (t : SR K H μ S) (r : RR K H0 H μ a v) (e : a.py S = some p) : Dp K H v p := by
  cases a with
  | v d => exact dp_of t 66 d v p r e
  | t ds =>
    obtain ⟨q, vs, e1, _, h1, _, h3⟩ := r
    subst e1
    have e : (ds.mapM (D.py S 65)).map PyData.list = some _ := e
    cases e2 : ds.mapM (D.py S 65) with
    | none => rw [e2] at e; cases e
    | some ps =>
      rw [e2] at e
      cases e
      exact .lst (SqL.of h1) (dpAll_of (dp_of t 65) _ _ ps h3 e2)
theorem vof_flat {d : D} {v : L2.V} (f : flat d = true) (r : RD K H μ d v) : v = V.of d ∧ flatV v = true := by
  cases r with
  | tup => cases f
  | ref => cases f
  | fl => cases f
  | _ => exact ⟨rfl, rfl⟩
theorem vof_all : ∀ {ds : List D} {vs : List L2.V}, ds.all flat = true → RDs K H μ ds vs → vs = ds.map V.of ∧ vs.all flatV = true
  | _, _, _, .nil => ⟨rfl, rfl⟩
  | _, _, f, .cons r rr => by
    rw [List.all_cons, Bool.and_eq_true] at f
    obtain ⟨e1, e2⟩ := vof_flat f.1 r
    obtain ⟨e3, e4⟩ := vof_all f.2 rr
    subst e1
    subst e3
    exact ⟨rfl, by rw [List.all_cons, e2, e4]; rfl⟩
theorem seq_any {a : R} {v : L2.V} {ds : List D} {b : Bool} (t : SR K H μ S) (r : RR K H0 H μ a v) (e : seqOf S a = some (b, ds)) : ∃ p vs, v = .ref p ∧ (SqL K H p vs ∨ SqT K H p vs) ∧ RDs K H μ ds vs := by
  cases b with
  | true =>
    obtain ⟨_, p, vs, e1, h, q⟩ := seq_tup t r e
    exact ⟨p, vs, e1, .inr h, q⟩
  | false =>
    obtain ⟨p, vs, e1, h, q⟩ := seq_lst t r e
    exact ⟨p, vs, e1, .inl (SqL.of h), q⟩
end

/-! ### comparisons -/
section
variable {X : Cx} {RX : RXT}
def rC (K : PySem.W.Frag) (o : CmpOp) : R2 := fun x y H Q => ∃ H0 μ S a b c, SR K H μ S ∧ RR K H0 H μ a x ∧ RR K H0 H μ b y ∧ evCmp o S a b = some c ∧ Q (.bl c) H
theorem is_non {K : PySem.W.Frag} {H0 H : Hp} {μ : List Addr} {a : R} {x : L2.V} (r : RR K H0 H μ a x) : decide (x = .non) = (match a with | .v .non => true | _ => false) := by
  cases a with
  | v d => cases (show RD K H μ d x from r) <;> rfl
  | t ds =>
    obtain ⟨p, vs, e, _⟩ := r
    subst e
    rfl
theorem intsC_of {K : PySem.W.Frag} {H0 H : Hp} {μ : List Addr} {f : Int → Int → Bool} {a b : R} {x y : L2.V} {c : Bool} (ha : RR K H0 H μ a x) (hb : RR K H0 H μ b y) (e : intsC f a b = some c) : ∃ i j, x = .int i ∧ y = .int j ∧ c = f i j := by
  unfold intsC at e
  split at e
  · cases e; exact ⟨_, _, rd_int ha, rd_int hb, rfl⟩
  · cases e
theorem eqR_of {K : PySem.W.Frag} {H0 H : Hp} {μ : List Addr} {S : Store} {a b : R} {x y : L2.V} {c : Bool} (t : SR K H μ S) (ha : RR K H0 H μ a x) (hb : RR K H0 H μ b y) (e : eqR S a b = some c) :
    ∃ d e, Dp K H x d ∧ Dp K H y e ∧ SeqAt.shaped d = true ∧ SeqAt.shaped e = true ∧ c = PyData.eqv d e := by
  unfold eqR at e
  split at e
  · rename_i p q e1 e2
    split at e
    · rename_i hz
      rw [Bool.and_eq_true] at hz
      cases e
      exact ⟨p, q, dpR t ha e1, dpR t hb e2, hz.1, hz.2, rfl⟩
    · cases e
  · cases e
theorem op_cmp (hu : X.A.units + 64 < cLine) (o : CmpOp) : OpR X (compareOp o) (rC X.K o) := by
  intro pins s σ H x y v u Q I rx ry ⟨H0, μ, S, a, b, c, t, ha, hb, e, q⟩
  cases o with
  | Eq =>
    obtain ⟨d, e', h1, h2, h3, h4, rfl⟩ := eqR_of t ha hb e
    exact op_eqD hu pins s σ H x y v u Q I rx ry ⟨d, e', h1, h2, h3, h4, q⟩
  | NotEq =>
    cases e1 : eqR S a b with
    | none =>
      have e : (eqR S a b).map (!·) = some c := e
      rw [e1] at e; cases e
    | some k =>
      have e : (eqR S a b).map (!·) = some c := e
      rw [e1] at e; cases e
      obtain ⟨d, e', h1, h2, h3, h4, rfl⟩ := eqR_of t ha hb e1
      exact op_neD hu pins s σ H x y v u Q I rx ry ⟨d, e', h1, h2, h3, h4, q⟩
  | Lt => obtain ⟨i, j, e1, e2, rfl⟩ := intsC_of ha hb e; exact op_lt pins s σ H x y v u Q I rx ry ⟨i, j, e1, e2, q⟩
  | LtE => obtain ⟨i, j, e1, e2, rfl⟩ := intsC_of ha hb e; exact op_le pins s σ H x y v u Q I rx ry ⟨i, j, e1, e2, q⟩
  | Gt => obtain ⟨i, j, e1, e2, rfl⟩ := intsC_of ha hb e; exact op_gt pins s σ H x y v u Q I rx ry ⟨i, j, e1, e2, q⟩
  | GtE => obtain ⟨i, j, e1, e2, rfl⟩ := intsC_of ha hb e; exact op_ge pins s σ H x y v u Q I rx ry ⟨i, j, e1, e2, q⟩
  | Is =>
    unfold evCmp at e
    dsimp only at e
    split at e
    · cases e
      exact op_isBl pins s σ H x y v u Q I rx ry ⟨_, _, rd_bl ha, rd_bl hb, by rw [← Bool.beq_eq_decide_eq]; exact q⟩
    · cases e
      exact op_isN pins s σ H x y v u Q I rx ry ⟨rd_non hb, by rw [is_non ha]; exact q⟩
    · rename_i d hd
      cases e
      refine op_isN pins s σ H x y v u Q I rx ry ⟨rd_non hb, ?_⟩
      rw [is_non ha]
      cases d <;> first | exact q | exact (hd rfl).elim
    · cases e
      exact op_isN pins s σ H x y v u Q I rx ry ⟨rd_non hb, by rw [is_non ha]; exact q⟩
    · cases e
  | IsNot =>
    unfold evCmp at e
    dsimp only at e
    split at e
    · cases e
      exact op_notBl pins s σ H x y v u Q I rx ry ⟨_, _, rd_bl ha, rd_bl hb, by rw [← Bool.beq_eq_decide_eq]; exact q⟩
    · cases e
      exact op_notN pins s σ H x y v u Q I rx ry ⟨rd_non hb, by rw [is_non ha]; exact q⟩
    · rename_i d hd
      cases e
      refine op_notN pins s σ H x y v u Q I rx ry ⟨rd_non hb, ?_⟩
      rw [is_non ha]
      cases d <;> first | exact q | exact (hd rfl).elim
    · cases e
      exact op_notN pins s σ H x y v u Q I rx ry ⟨rd_non hb, by rw [is_non ha]; exact q⟩
    · cases e
  | In =>
    unfold evCmp at e
    dsimp only at e
    split at e
    · rename_i d b' ys hs
      split at e
      · rename_i hz
        rw [Bool.and_eq_true] at hz
        cases e
        obtain ⟨p, vs, e1, h1, h2⟩ := seq_any t hb hs
        obtain ⟨e2, f2⟩ := vof_flat hz.1 (show RD X.K H μ d x from ha)
        obtain ⟨e3, f3⟩ := vof_all hz.2 h2
        subst e2 e3
        exact op_in_seq pins s σ H _ y v u Q I rx ry ⟨p, _, e1, h1, f2, f3, q⟩
      · cases e
    · cases e
  | NotIn =>
    unfold evCmp at e
    dsimp only at e
    split at e
    · rename_i d b' ys hs
      split at e
      · rename_i hz
        rw [Bool.and_eq_true] at hz
        cases e
        obtain ⟨p, vs, e1, h1, h2⟩ := seq_any t hb hs
        obtain ⟨e2, f2⟩ := vof_flat hz.1 (show RD X.K H μ d x from ha)
        obtain ⟨e3, f3⟩ := vof_all hz.2 h2
        subst e2 e3
        exact op_notIn_seq pins s σ H _ y v u Q I rx ry ⟨p, _, e1, h1, f2, f3, q⟩
      · cases e
    · cases e

/-! ### truth -/
theorem tru_of {K : PySem.W.Frag} {H0 H : Hp} {μ : List Addr} {S : Store} {a : R} {x : L2.V} {k : Bool} (t : SR K H μ S) (r : RR K H0 H μ a x) (e : truth S a = some k) : TruV K x H k := by
  cases a with
  | t ds =>
    cases e
    obtain ⟨p, vs, e1, _, h1, _, h3⟩ := r
    subst e1
    refine .inl ⟨vs, SqL.of h1, ?_⟩
    cases h3 <;> rfl
  | v d =>
    cases (show RD K H μ d x from r) with
    | non => cases e; rfl
    | bl b => cases e; rfl
    | int i => cases e; rfl
    | str y =>
      have e : (if Nat.ble y.length szl then some ((y.length : Int) != 0) else none) = some k := e
      split at e
      · rename_i hz
        cases e
        exact ⟨by rw [sizeLine_eq]; exact Nat.ble_eq.mp hz, rfl⟩
      · cases e
    | tup h q =>
      cases e
      refine .inr (.inl ⟨_, h, ?_⟩)
      cases q <;> rfl
    | @ref n p hm =>
      unfold truth at e
      dsimp only at e
      split at e
      · rename_i ds hs
        cases e
        obtain ⟨o, h1, vs, h2, h3⟩ := t.cell n _ _ hs hm
        subst h2
        refine .inl ⟨vs, SqL.of h1, ?_⟩
        cases h3 <;> rfl
      · cases e
    | fl h q => unfold truth at e; dsimp only at e; cases e

/-! ### isinstance -/
def Ty.val (t : Ty) : Value := .type (match t with | .int => "int" | .bool => "bool" | .str => "str" | .tuple => "tuple" | .list => "list" | .dict => "dict")
theorem Ty.boot (t : Ty) : bootBuiltins t.nm = some t.val := by cases t <;> decide +kernel
def Ty.v (t : Ty) : L2.V := .ty (match t with | .int => "int" | .bool => "bool" | .str => "str" | .tuple => "tuple" | .list => "list" | .dict => "dict")
theorem Ty.rel (t : Ty) : RelV t.v t.val := by cases t <;> rfl
theorem Ty.cls (t : Ty) : ClsV t.v t.val := by cases t <;> exact .ty _
theorem kit_all (K : PySem.W.Frag) : (∀ t : Ty, PySem.W.kitOne K (.type "NoneType") t.val = some false) ∧ (∀ t : Ty, PySem.W.kitOne K (.type "bool") t.val = some (t == .bool || t == .int)) ∧
    (∀ t : Ty, PySem.W.kitOne K (.type "int") t.val = some (t == .int)) ∧ (∀ t : Ty, PySem.W.kitOne K (.type "str") t.val = some (t == .str)) ∧ (∀ t : Ty, PySem.W.kitOne K (.type "tuple") t.val = some (t == .tuple)) ∧
    (∀ t : Ty, PySem.W.kitOne K (.type "list") t.val = some (t == .list)) ∧ (∀ t : Ty, PySem.W.kitOne K (.type "dict") t.val = some (t == .dict)) := by
  refine ⟨?_, ?_, ?_, ?_, ?_, ?_, ?_⟩ <;> intro t <;> cases t <;> first | exact kit_ty (by decide +kernel) | rfl
theorem tyx_of {K : PySem.W.Frag} {H0 H : Hp} {μ : List Addr} {S : Store} {a : R} {x : L2.V} (t : SR K H μ S) (r : RR K H0 H μ a x) (hx : ∃ t b, tyIs S a t = some b) : ∃ ty, TyX K H x ty ∧ ∀ t b, tyIs S a t = some b → PySem.W.kitOne K ty t.val = some b := by
  obtain ⟨k1, k2, k3, k4, k5, k6, k7⟩ := kit_all K
  cases a with
  | t ds =>
    obtain ⟨p, vs, e1, _, h1, _, h3⟩ := r
    subst e1
    exact ⟨_, .base (.lst h1), fun t b e => by cases e; exact k6 t⟩
  | v d =>
    cases (show RD K H μ d x from r) with
    | non => exact ⟨_, .base .non, fun t b e => by cases e; exact k1 t⟩
    | bl b => exact ⟨_, .base (.bl b), fun t b e => by cases e; exact k2 t⟩
    | int i => exact ⟨_, .base (.int i), fun t b e => by cases e; exact k3 t⟩
    | str y => exact ⟨_, .base (.str y), fun t b e => by cases e; exact k4 t⟩
    | tup h q =>
      rcases h with (h | ⟨o, h⟩) | ⟨o, its, n, h, hc, _⟩
      · exact ⟨_, .base (.tup h), fun t b e => by cases e; exact k5 t⟩
      · exact ⟨_, .fTuple h, fun t b e => by cases e; exact k5 t⟩
      · exact ⟨_, .kTuple h hc, fun t b e => by cases e; exact k5 t⟩
    | fl h q =>
      obtain ⟨t0, b0, e0⟩ := hx
      unfold tyIs at e0
      dsimp only at e0
      cases e0
    | @ref n p hm =>
      obtain ⟨t0, b0, e0⟩ := hx
      cases hs : S[n]? with
      | none => unfold tyIs at e0; simp only [hs] at e0; cases e0
      | some c =>
        obtain ⟨o, h1, h2⟩ := t.cell n _ _ hs hm
        cases c with
        | lst ds =>
          obtain ⟨vs, h2, h3⟩ := h2
          subst h2
          exact ⟨_, .base (.lst h1), fun t b e => by unfold tyIs at e; simp only [hs] at e; cases e; exact k6 t⟩
        | dct kvs =>
          obtain ⟨_, h2⟩ := h2
          subst h2
          exact ⟨_, .base (.dK h1), fun t b e => by unfold tyIs at e; simp only [hs] at e; cases e; exact k7 t⟩
end
end Q
end
section
-- Snd5
set_option Elab.async false
set_option linter.all false
set_option maxRecDepth 100000
set_option maxHeartbeats 4000000
namespace Q
open PySem PySem.Spec PyProof.Rows L2

/-! ### built-ins of one, of two values -/
def Bi1.val : Bi1 → Value
  | .len => .builtin "len" | .abs => .builtin "abs" | .all => .builtin "all" | .any => .builtin "any" | .repr => .builtin "repr"
  | .int => .type "int" | .bool => .type "bool" | .tuple => .type "tuple" | .list => .type "list"
def Bi2.val : Bi2 → Value
  | .min => .builtin "min" | .max => .builtin "max" | .divmod => .builtin "divmod"
section
variable {X : Cx} {RX : RXT}
def rS1 (RX : RXT) (K : PySem.W.Frag) (f : Store → R → Res R) : List L2.V → Hp → VK → Prop := fun xs H Q => ∃ E H0 μ0 μ S a x, xs = [x] ∧ Step H0 μ0 H μ ∧ SR K H μ S ∧ RR K H0 H μ a x ∧ Out RX K E H0 μ0 (f S a) fun r S' H' μ' => ∀ v, RR K H0 H' μ' r v → Q v H'
def rS2 (RX : RXT) (K : PySem.W.Frag) (f : Store → R → R → Res R) : List L2.V → Hp → VK → Prop := fun xs H Q => ∃ E H0 μ0 μ S a b x y, xs = [x, y] ∧ Step H0 μ0 H μ ∧ SR K H μ S ∧ RR K H0 H μ a x ∧ RR K H0 H μ b y ∧ Out RX K E H0 μ0 (f S a b) fun r S' H' μ' => ∀ v, RR K H0 H' μ' r v → Q v H'
theorem allBl_of {K : PySem.W.Frag} {H : Hp} {μ : List Addr} : ∀ {ds : List D} {vs : List L2.V} {bs : List Bool}, allBl ds = some bs → RDs K H μ ds vs → vs = bs.map L2.V.bl
  | [], _, bs, e, .nil => by cases e; rfl
  | d :: ds, _, bs, e, .cons r rr => by
    cases r with
    | bl b =>
      have e : (allBl ds).map (b :: ·) = some bs := e
      cases e1 : allBl ds with
      | none => rw [e1] at e; cases e
      | some bs' =>
        rw [e1] at e
        cases e
        rw [allBl_of e1 rr]
        rfl
    | _ => cases e
theorem call_bi1 (hc : X.calm = true) (b : Bi1) : CallR X b.val (rS1 RX X.K (evBi1 b)) := by
  intro pins s σ H xs us Q I r ⟨E, H0, μ0, μ, S, a, x, ex, st, t, ha, h⟩
  subst ex
  cases b with
  | len =>
    have key : ∀ ds b', seqOf S a = some (b', ds) → (∀ v, RR X.K H0 H μ (.v (.int ds.length)) v → Q v H) → wpAny (model X.prog X.w) X.A (call (Bi1.val .len) us) (EP X pins σ Q) X.xe s := fun ds b' e q => by
      obtain ⟨p, vs, e1, h1, h2⟩ := seq_any t ha e
      subst e1
      refine call_len pins s σ H _ us Q I r ⟨_, vs.length, rfl, ?_, ?_⟩
      · rcases h1 with h1 | h1
        · exact .inl ⟨vs, h1, rfl⟩
        · exact .inr ⟨vs, h1, rfl⟩
      · rw [← h2.length]; exact q _ (.int _)
    unfold evBi1 at h
    dsimp only at h
    split at h
    · rename_i y
      split at h
      · rename_i hz
        have ex := rd_str ha
        subst ex
        exact call_len pins s σ H _ us Q I r ⟨_, y.length, rfl, ⟨by rw [sizeLine_eq]; exact Nat.ble_eq.mp hz, rfl⟩, h H μ st t _ (.int _)⟩
      · exact h.elim
    · rename_i ds
      cases (show RD X.K H μ (.fl ds) x from ha) with
      | @fl p vs _ h1 h2 =>
        refine call_len pins s σ H _ us Q I r ⟨_, vs.length, rfl, .inl ⟨vs, h1.seq, rfl⟩, ?_⟩
        rw [← h2.length]
        exact h H μ st t _ (.int _)
    · split at h
      · rename_i ds e
        exact key ds _ e (h H μ st t)
      · exact h.elim
  | abs =>
    unfold evBi1 at h
    dsimp only at h
    split at h
    · have ex := rd_int ha
      subst ex
      exact call_abs pins s σ H _ us Q I r ⟨_, rfl, h H μ st t _ (.int _)⟩
    · exact h.elim
  | int =>
    unfold evBi1 at h
    dsimp only at h
    split at h
    · have ex := rd_int ha
      subst ex
      exact call_int1 pins s σ H _ us Q I r (.inl ⟨_, rfl, h H μ st t _ (.int _)⟩)
    · have ex := rd_bl ha
      subst ex
      exact call_int1 pins s σ H _ us Q I r (.inr ⟨_, rfl, h H μ st t _ (.int _)⟩)
    · exact h.elim
  | bool =>
    unfold evBi1 at h
    dsimp only at h
    split at h
    · have ex := rd_int ha
      subst ex
      exact call_bool1 pins s σ H _ us Q I r (.inl ⟨_, rfl, h H μ st t _ (.bl _)⟩)
    · have ex := rd_bl ha
      subst ex
      exact call_bool1 pins s σ H _ us Q I r (.inr ⟨_, rfl, h H μ st t _ (.bl _)⟩)
    · exact h.elim
  | all =>
    unfold evBi1 at h
    dsimp only at h
    split at h
    · rename_i ds e
      split at h
      · rename_i bs eb
        obtain ⟨p, vs, e1, h1, h2⟩ := seq_lst t ha e
        have e2 := allBl_of eb h2
        subst e1 e2
        exact cr_all hc pins s σ H _ us Q I r ⟨p, bs, rfl, SqL.of h1, h H μ st t _ (.bl _)⟩
      · exact h.elim
    · exact h.elim
  | any =>
    unfold evBi1 at h
    dsimp only at h
    split at h
    · rename_i ds e
      split at h
      · rename_i bs eb
        obtain ⟨p, vs, e1, h1, h2⟩ := seq_lst t ha e
        have e2 := allBl_of eb h2
        subst e1 e2
        exact cr_any hc pins s σ H _ us Q I r ⟨p, bs, rfl, SqL.of h1, h H μ st t _ (.bl _)⟩
      · exact h.elim
    · exact h.elim
  | tuple =>
    unfold evBi1 at h
    dsimp only at h
    split at h
    · rename_i b' ds e
      cases b' with
      | true =>
        obtain ⟨ea, p, vs, e1, h1, h2⟩ := seq_tup t ha e
        subst e1
        exact call_tuple_of pins s σ H _ us Q I r ⟨p, vs, rfl, .inr ⟨h1, h H μ st t _ (.tup h1 h2)⟩⟩
      | false =>
        obtain ⟨p, vs, e1, h1, h2⟩ := seq_lst t ha e
        subst e1
        exact call_tuple_of pins s σ H _ us Q I r ⟨p, vs, rfl, .inl ⟨SqL.of h1, fun l hl => h _ μ (st.new hl) (t.new hl) _ (new_tup h2 hl)⟩⟩
    · exact h.elim
  | list =>
    unfold evBi1 at h
    dsimp only at h
    split at h
    · rename_i b' ds e
      obtain ⟨p, vs, e1, h1, h2⟩ := seq_any t ha e
      subst e1
      exact call_list_of pins s σ H _ us Q I r ⟨p, vs, rfl, h1, fun l hl => h _ μ (st.new hl) (t.new hl) _ (new_lst st t h2 hl)⟩
    · exact h.elim
  | repr =>
    obtain ⟨u, rfl, ru⟩ := vals1 r
    unfold evBi1 at h
    dsimp only at h
    split at h
    · have ex := rd_non ha
      subst ex
      cases ru
      exact PySem.P.repr_of_none ⟨.str _, H, I.tok _, ⟨_, rfl⟩, h H μ st t _ (.str _)⟩
    · have ex := rd_bl ha
      subst ex
      cases ru
      exact PySem.P.repr_of_bool ⟨.str _, H, I.tok _, ⟨_, rfl⟩, h H μ st t _ (.str _)⟩
    · split at h
      · rename_i hz
        have ex := rd_int ha
        subst ex
        obtain ⟨t', rfl⟩ := ru
        exact PySem.P.repr_of_int (Nat.blt_eq.mp hz) ⟨.str _, H, I.tok _, ⟨_, rfl⟩, h H μ st t _ (.str _)⟩
      · exact h.elim
    · exact h.elim
theorem call_bi2 (hc : X.calm = true) (b : Bi2) : CallR X b.val (rS2 RX X.K (evBi2 b)) := by
  intro pins s σ H xs us Q I r ⟨E, H0, μ0, μ, S, a, b', x, y, ex, st, t, ha, hb, h⟩
  subst ex
  cases b with
  | min =>
    unfold evBi2 at h
    dsimp only at h
    split at h
    · have e1 := rd_int ha
      have e2 := rd_int hb
      subst e1 e2
      exact call_min2 hc pins s σ H _ us Q I r ⟨_, _, rfl, h H μ st t _ (.int _)⟩
    · exact h.elim
  | max =>
    unfold evBi2 at h
    dsimp only at h
    split at h
    · have e1 := rd_int ha
      have e2 := rd_int hb
      subst e1 e2
      exact call_max2 hc pins s σ H _ us Q I r ⟨_, _, rfl, h H μ st t _ (.int _)⟩
    · exact h.elim
  | divmod =>
    unfold evBi2 at h
    dsimp only at h
    split at h
    · have e1 := rd_int ha
      have e2 := rd_int hb
      subst e1 e2
      split at h
      · rename_i hz
        rw [Bool.and_eq_true] at hz
        exact call_divmod pins s σ H _ us Q I r ⟨_, _, rfl, ⟨of_decide_eq_true hz.1, of_decide_eq_true hz.2⟩, fun p hp => h _ μ (st.new hp) (t.new hp) _ (new_tup (.cons (.int _) (.cons (.int _) .nil)) hp)⟩
      · exact h.elim
    · exact h.elim

/-! ### items, slices -/
def rIt (K : PySem.W.Frag) : R2 := fun x y H Q => ∃ H0 μ S a b d, SR K H μ S ∧ RR K H0 H μ a x ∧ RR K H0 H μ b y ∧ getItem S a b = some d ∧ ∀ v, RD K H μ d v → Q v H
theorem ix_all : IxR X (rIt X.K) := by
  intro value slice pins s σ H x y v u Q I rx ry ⟨H0, μ, S, a, b, d, t, ha, hb, e, q⟩ hs
  have key : ∀ (ii : Int) p vs ds, x = .ref p → y = .int ii → (SqL X.K H p vs ∨ SqT X.K H p vs) → RDs X.K H μ ds vs → atD ds ii = some d → wpAny (model X.prog X.w) X.A _ (EP X pins σ Q) X.xe s := fun ii p vs ds e2 e3 h1 h2 e => by
    subst e2 e3
    have e : (L2.ixN ds.length _).bind (fun j => ds[j]?) = some d := e
    rw [h2.length] at e
    cases e4 : L2.ixN vs.length ii with
    | none => rw [e4] at e; cases e
    | some j =>
      rw [e4] at e
      obtain ⟨w', e5, e6⟩ := h2.get (show ds[j]? = some d from e)
      have e7 : L2.atI vs ii = some w' := by
        show (L2.ixN vs.length _).bind _ = _
        rw [e4]
        exact e5
      refine ix_seq value slice pins s σ H _ _ v u Q I rx ry ?_ hs
      rcases h1 with h1 | h1
      · exact .inl ⟨p, vs, _, w', rfl, rfl, h1, e7, q _ e6⟩
      · exact .inr (.inl ⟨p, vs, _, w', rfl, rfl, h1, e7, q _ e6⟩)
  unfold getItem at e
  split at e
  · rename_i ii
    have e3 := rd_int hb
    split at e
    · rename_i ds
      cases (show RD X.K H μ (.fl ds) x from ha) with
      | @fl p vs _ h1 h2 => exact key ii p vs ds rfl e3 (.inl h1.seq) h2 e
    · split at e
      · rename_i b' ds e1
        obtain ⟨p, vs, e2, h1, h2⟩ := seq_any t ha e1
        exact key ii p vs ds e2 e3 h1 h2 e
      · cases e
  · cases e
def rSl (RX : RXT) (K : PySem.W.Frag) : L2.V → Option Int → Option Int → Hp → VK → Prop := fun x lo hi H Q => ∃ E H0 μ0 μ S a, Step H0 μ0 H μ ∧ SR K H μ S ∧ RR K H0 H μ a x ∧
  Out RX K E H0 μ0 (match seqOf S a with | some (true, ds) => .ok (.v (.tup (slice ds lo hi))) S | some (false, ds) => .ok (.t (slice ds lo hi)) S | none => (.bad : Res R)) fun r S' H' μ' => ∀ v, RR K H0 H' μ' r v → Q v H'
theorem slice_rel {K : PySem.W.Frag} {H : Hp} {μ : List Addr} {ds : List D} {vs : List L2.V} (h : RDs K H μ ds vs) (lo hi : Option Int) : RDs K H μ (slice ds lo hi) (cutV vs lo hi) := by
  unfold slice cutV
  rw [h.length]
  exact (h.drop _).take _
theorem sl_all : SlR X (rSl RX X.K) := by
  intro pins s σ H x v loV hiV lo hi sl Q I rx hs pl pu ⟨E, H0, μ0, μ, S, a, st, t, ha, h⟩
  split at h
  · rename_i ds e
    obtain ⟨ea, p, vs, e1, h1, h2⟩ := seq_tup t ha e
    subst e1
    refine sl_tupA pins s σ H _ v loV hiV lo hi sl Q I rx hs pl pu ⟨p, vs, rfl, h1, fun hw => ?_, fun hw q hq => ?_⟩
    · refine h H μ st t _ (.tup h1 ?_)
      have e2 := slice_rel h2 lo hi
      have e3 : cutV vs lo hi = vs := by
        unfold cutV
        rw [hw.1, hw.2, List.drop_zero, Nat.sub_zero]
        exact List.take_length
      rw [e3] at e2
      exact e2
    · exact h _ μ (st.new hq) (t.new hq) _ (new_tup (slice_rel h2 lo hi) hq)
  · rename_i ds e
    obtain ⟨p, vs, e1, h1, h2⟩ := seq_lst t ha e
    subst e1
    exact sl_list pins s σ H _ v loV hiV lo hi sl Q I rx hs pl pu ⟨p, vs, rfl, SqL.of h1, fun q hq => h _ μ (st.new hq) (t.new hq) _ (new_lst st t (slice_rel h2 lo hi) hq)⟩
  · exact h.elim
end

/-! ### t[::-1] -/
section
variable {prog : Program} {w : World} {A : Around} {E : Value → Shared → Prop} {s : Shared}
theorem places_rev (n : Nat) : Builtin.Slice.slicePlaces ((n : Int) - 1) (-1) (-1) = n := by
  unfold Builtin.Slice.slicePlaces
  rw [if_neg (by decide)]
  by_cases h : 0 < n
  · rw [if_pos (by omega)]
    have : -(-1 : Int) = 1 := by decide
    rw [this, Int.ediv_one]
    omega
  · rw [if_neg (by omega)]
    omega
theorem fm_congr {α β : Type} {f g : α → Option β} : ∀ {l : List α}, (∀ a ∈ l, f a = g a) → l.filterMap f = l.filterMap g
  | [], _ => rfl
  | a :: l, h => by
    rw [List.filterMap_cons, List.filterMap_cons, h a List.mem_cons_self, fm_congr fun b hb => h b (List.mem_cons_of_mem _ hb)]
theorem pick_rev (xs : Array Value) : ((List.range xs.size).filterMap fun (m : Nat) => xs[((xs.size : Int) - 1 + (m : Int) * (-1)).toNat]?).toArray = xs.toList.reverse.toArray := by
  congr 1
  apply List.ext_getElem?
  intro i
  have e1 : ∀ m ∈ List.range xs.size, xs[((xs.size : Int) - 1 + (m : Int) * (-1)).toNat]? = some (xs.toList.reverse.getD m .none) := fun m hm => by
    rw [List.mem_range] at hm
    have e2 : ((xs.size : Int) - 1 + (m : Int) * (-1)).toNat = xs.size - 1 - m := by omega
    have h1 : xs.size - 1 - m < xs.size := by omega
    rw [e2, List.getD_eq_getElem?_getD, List.getElem?_reverse (by simpa using hm)]
    simp [h1]
  have e3 : (List.range xs.size).filterMap (fun (m : Nat) => xs[((xs.size : Int) - 1 + (m : Int) * (-1)).toNat]?) = (List.range xs.size).map fun m => xs.toList.reverse.getD m .none := by
    rw [fm_congr e1, ← List.filterMap_eq_map]
    rfl
  rw [e3, List.getElem?_map]
  by_cases hi : i < xs.size
  · rw [List.getElem?_range hi]
    have hl : i < xs.toList.reverse.length := by simpa using hi
    rw [List.getElem?_eq_getElem hl]
    simp [hl, hi]
  · rw [List.getElem?_eq_none (by simpa using hi), List.getElem?_eq_none (by simpa using hi)]
    rfl
theorem sliceApplied_rev {sl : Addr} {loV hiV vs : Value} {n : Nat} {Q : Int × Int × Nat → Shared → Prop} (hs : s.heap.IsSliceOf sl loV hiV vs) (pl : IsPart loV none) (pu : IsPart hiV none) (ps : IsPart vs (some (-1)))
    (h : Q ((n : Int) - 1, -1, n) s) : wpAny (model prog w) A (Builtin.Slice.sliceApplied (.ref sl) (pure (n : Int))) Q E s := by
  obtain ⟨os, gotO, ofS, dataS⟩ := id hs
  unfold Builtin.Slice.sliceApplied Builtin.Slice.sliceFields
  refine wpAny_bind (wpAny_bind (wpAny_field gotO dataS (x := loV) rfl (wpAny_bind (wpAny_field gotO dataS (x := hiV) rfl (wpAny_bind (wpAny_field gotO dataS (x := vs) rfl (wpAny_pure ?_)))))))
  refine wpAny_bind (HT.slicePart_ ps ?_)
  show wpAny _ _ (if ((-1 : Int) == 0) = true then _ else _) _ _ s
  rw [if_neg (by decide)]
  refine wpAny_bind (HT.slicePart_ pl (wpAny_bind (HT.slicePart_ pu (wpAny_bind (wpAny_pure ?_)))))
  show wpAny _ _ (match Builtin.Slice.sliceAdjust none none (-1) (n : Int) with | (lo, hi) => pure (lo, (-1 : Int), Builtin.Slice.slicePlaces lo hi (-1))) _ _ s
  have ea : Builtin.Slice.sliceAdjust none none (-1) (n : Int) = ((n : Int) - 1, -1) := by
    unfold Builtin.Slice.sliceAdjust
    rfl
  rw [ea]
  show wpAny _ _ (pure ((n : Int) - 1, (-1 : Int), Builtin.Slice.slicePlaces ((n : Int) - 1) (-1) (-1))) _ _ s
  rw [places_rev]
  exact wpAny_pure h
theorem getItem_tuple_rev {t sl : Addr} {items : Array Value} {loV hiV vs : Value} {Q : Value → Shared → Prop} (ht : IsTup s.heap t items) (hs : s.heap.IsSliceOf sl loV hiV vs) (pl : IsPart loV none) (pu : IsPart hiV none) (ps : IsPart vs (some (-1)))
    (h : Q (.ref s.heap.objs.size) { s with heap := s.heap.push { cls := .type "tuple", data := .seq items.toList.reverse.toArray } })
    (hsz : items.size ≤ sizeLine) : wpAny (model prog w) A (PySem.getItem (.ref t) (.ref sl)) Q E s := by
  have room : sizeOk (.seq items.toList.reverse.toArray) := by
    show items.toList.reverse.toArray.size ≤ sizeLine
    simpa using hsz
  obtain ⟨os, gotO, ofS, dataS⟩ := id hs
  have tyS : s.TypeIs (.ref sl) "slice" := ⟨os, gotO, ofS⟩
  unfold PySem.getItem
  try with_reducible refine wpAny_holding ?_
  first | refine wpAny_bind (wpAny_pure ?_) | skip
  refine wpAny_bind (wpAny_sequenceKey ht.typeIs (by decide) ?_)
  refine wpAny_bind (wpAny_callSpecial?_slot (name := Str.ofString "__getitem__") ht.typeIs PyProof.Rows.slot_tuple_getitem
    (wpAny_call_entry PyProof.Rows.slot_tuple_getitem ht.typeIs entry_tuple_getitem ?_ (args_tuple_getitem _ _)))
  show wpAny _ _ (Builtin.Tuple.tupleItemsOf (.ref t) >>= _) _ _ s
  refine wpAny_bind (tupleItemsOf_ ht ?_)
  refine wpAny_bind (wpAny_typeOf tyS ?_)
  rw [if_pos (by decide)]
  refine wpAny_bind (sliceApplied_rev hs pl pu ps ?_)
  have hno : ¬ ((((items.size : Int) - 1) == 0 && (-1 : Int) == 1 && items.size == items.size) = true) := by
    intro q
    rw [Bool.and_eq_true, Bool.and_eq_true] at q
    exact absurd q.1.2 (by decide)
  show wpAny _ _ (if (((items.size : Int) - 1) == 0 && (-1 : Int) == 1 && items.size == items.size) = true then _ else _) _ _ s
  rw [if_neg hno, pick_rev]
  first
    | exact wpAny_bind (m := Builtin.Tuple.tupleExact _) (wpAny_newObj_type (wpAny_pure ⟨_, rfl, wpAny_pure h⟩) room)
    | exact wpAny_bind (m := Builtin.Tuple.tupleExact _) (wpAny_newObj_type (wpAny_bind (wpAny_pure (wpAny_pure ⟨_, rfl, wpAny_pure h⟩))) room)
    | exact wpAny_bind (wpAny_bind (m := Builtin.Tuple.tupleExact _) (wpAny_newObj_type (wpAny_pure (wpAny_pure ⟨_, rfl, wpAny_pure h⟩)) room))
    | exact wpAny_bind (wpAny_bind (m := Builtin.Tuple.tupleExact _) (wpAny_newObj_type (wpAny_pure ⟨_, rfl, wpAny_pure h⟩) room))
end
section
variable {X : Cx}
def tRevT (K : PySem.W.Frag) (te : TE) : TE := fun σ H Q => te σ H fun x H1 => ∃ a xs, x = .ref a ∧ ((SqT K H1 a xs ∧ ∀ p, H1 p = none → Q (.ref p) (upd H1 p (.tup xs.reverse))) ∨ (SqL K H1 a xs ∧ ∀ p, H1 p = none → Q (.ref p) (upd H1 p (.lst xs.reverse))))
theorem pe_revT {e : Expr} {te : TE} {k : Nat} {p1 p2 p3 pos : Pos} (he : PE X e te) : PE X (.Subscript e (.Slice none none (some (.UnaryOp .USub (.Constant (.int 1) k p1) p2)) p3) pos) (tRevT X.K te) := by
  refine ⟨fun pins s σ H Q I h => ?_⟩
  refine Subscript_ (thn (he.run pins s σ H _ I h) fun v s1 ⟨x, H1, I1, r1, q1⟩ => ?_)
  obtain ⟨a, xs, ex, q⟩ := q1
  subst ex
  cases r1
  have hst : PO X (some (.UnaryOp .USub (.Constant (.int 1) k p1) p2)) (tPart (tUn (rU fun i => .int (-i)) (tC (.int 1)))) := po_some (pe_un un_neg pe_int)
  refine wpAny_Slice (thn (po_none.run pins s1 σ H1 (fun o HB => o = none ∧ HB = H1) I1 ⟨rfl, rfl⟩) fun loV sB ⟨l, HB, IB, pl, el, e2⟩ => ?_)
  subst el e2
  refine thn (po_none.run pins sB σ HB (fun o HC => o = none ∧ HC = HB) IB ⟨rfl, rfl⟩) fun hiV sC ⟨u, HC, IC, pu, eu, e3⟩ => ?_
  subst eu e3
  refine thn (hst.run pins sC σ HC (fun o HD => o = some (-1) ∧ HD = HC) IC ⟨1, rfl, -1, rfl, rfl, rfl⟩) fun vs sD ⟨o, HD, ID, ps, eo, e4⟩ => ?_
  subst eo e4
  have IE : Inv X pins σ HD { sD with heap := sD.heap.push { cls := .type "slice", data := .fields #[loV, hiV, vs] } } := ID.kept (t' := sD.toks) fun b ob q => Heap.get?_push_of_some _ q
  rcases q with ⟨hx, q⟩ | ⟨hx, q⟩
  · obtain ⟨its, r, ht, hz⟩ := IE.tuple hx
    have hlen := r.length
    show wpAny (model X.prog X.w) X.A (subscriptTail e (.Slice none none (some (.UnaryOp .USub (.Constant (.int 1) k p1) p2)) p3) (.ref a) (.ref sD.heap.objs.size)) (EP X pins σ Q) X.xe { sD with heap := sD.heap.push { cls := .type "slice", data := .fields #[loV, hiV, vs] } }
    refine tail_any (ops := [.ref a, .ref sD.heap.objs.size]) ht.typeIs (PyProof.Rows.slot_tuple_getitem.lookup) ?_ (by with_unfolding_all rfl)
    refine getItem_tuple_rev ht (Heap.IsSliceOf.new _ loV hiV vs) pl pu ps ?_ (by rw [List.size_toArray]; omega)
    refine ⟨.ref _, _, IE.laid (t' := sD.toks) (o := .tup xs.reverse) (fun b ob q => Heap.get?_push_of_some _ q) (Nat.le_refl _) ?_, rfl, q _ (IE.hok.fresh (Nat.le_refl _))⟩
    exact ⟨by rw [List.length_reverse]; exact hz, _, r.reverse, IsTup.new _ _⟩
  · obtain ⟨its, r, ht, hz⟩ := IE.list hx
    have hlen := r.length
    show wpAny (model X.prog X.w) X.A (subscriptTail e (.Slice none none (some (.UnaryOp .USub (.Constant (.int 1) k p1) p2)) p3) (.ref a) (.ref sD.heap.objs.size)) (EP X pins σ Q) X.xe { sD with heap := sD.heap.push { cls := .type "slice", data := .fields #[loV, hiV, vs] } }
    refine tail_any (ops := [.ref a, .ref sD.heap.objs.size]) ht.isList.typeIs (PySem.slot_list_getitem.lookup) ?_ (by with_unfolding_all rfl)
    refine wpAny_getItem_list_slice ht.isList (Heap.IsSliceOf.new _ loV hiV vs) pl pu ps (by decide) ?_ (by rw [List.size_toArray]; omega)
    rw [PySem.W.krv_pick]
    refine ⟨.ref _, _, IE.laid (t' := sD.toks) (o := .lst xs.reverse) (fun b ob q => Heap.get?_push_of_some _ q) (Nat.le_refl _) ?_, rfl, q _ (IE.hok.fresh (Nat.le_refl _))⟩
    exact ⟨by rw [List.length_reverse]; exact hz, _, 0, r.reverse, Heap.get?_push_size _ rfl⟩
end
end Q
end
section
-- Snd6
set_option Elab.async false
set_option linter.all false
set_option maxRecDepth 100000
set_option maxHeartbeats 4000000
/-! enumerate of a tuple -/
namespace PySem
open Sem (wp)
open AutoSeq1 (wpAny_loadPart')
set_option maxHeartbeats 1000000 in
theorem meets_enumerate_newB1 {v : Value} {o : Obj} {H : Heap → Prop} (B : Begins v o H) :
    Meets (Builtin.«enumerate.__new__» ⟨[.type "enumerate", v], []⟩) (fun _ R s => H s.heap ∧
      R (.ok (.ret (.ref (s.heap.push o).objs.size))) { s with heap := (s.heap.push o).push { cls := .type "enumerate", data := .fields #[.none, .bool false, .ref s.heap.objs.size, rawInt 0, .none, .none] } }) :=
  .of_wp fun prog w A R s h => by
    obtain ⟨heap0, g, d, tok, os0⟩ := s; obtain ⟨h1, h⟩ := h
    have hsub := sub_enumerate
    have qA : ∀ {A' : Around} {E : Value → Shared → Prop} {Q : Value → Shared → Prop}, Q (.ref heap0.objs.size) ⟨heap0.push o, g, d, tok, os0⟩ → wpAny (model prog w) A' (pyIter v) Q E ⟨heap0, g, d, tok, os0⟩ :=
      fun q => B.iter prog w _ _ ⟨heap0, g, d, tok, os0⟩ _ h1 q
    wp_walk using qA
    refine wpAny_stack_any fun st => wpAny_pure ?_
    split
    · rename_i c _ _ _ _ _
      cases (c == Value.type "enumerate")
      · wp_walk using qA
        exact ⟨_, rfl, h⟩
      · wp_walk using qA
        exact ⟨_, rfl, h⟩
    · wp_walk using qA
      exact ⟨_, rfl, h⟩
theorem call_enumerate_B {prog : Program} {w : World} {A : Around} {E : Value → Shared → Prop} {s : Shared} {v : Value} {o : Obj} {H : Heap → Prop} {Q : Value → Shared → Prop} (B : Begins v o H) (h1 : H s.heap)
    (h : ∀ h', IsEnum h' (s.heap.objs.size + 1) s.heap.objs.size 0 .none → h'.get? s.heap.objs.size = some o → h'.objs.size = s.heap.objs.size + 2 →
      (∀ b o, s.heap.get? b = some o → h'.get? b = some o) → Q (.ref (s.heap.objs.size + 1)) { s with heap := h' }) :
    wpAny (model prog w) A (call (.type "enumerate") [v]) Q E s := by
  refine callType_new F.called_enumerate (by decide) (F.typeCall_enumerate_1 _) (F.newCall_enumerate_1 _) (fun obj => F.args_object_init_2 obj _) F.entry_enumerate_new
    (meets_enumerate_newB1 B) ⟨h1, ?_⟩
  have zz : (s.heap.push o).objs.size = s.heap.objs.size + 1 := Heap.size_push ..
  show _ ∧ _
  rw [zz]
  have isE : IsEnum ((s.heap.push o).push { cls := .type "enumerate", data := .fields #[.none, .bool false, .ref s.heap.objs.size, rawInt 0, .none, .none] }) (s.heap.objs.size + 1) s.heap.objs.size 0 .none := by
    have := Heap.get?_push_size (s.heap.push o) (o := { cls := .type "enumerate", data := .fields #[.none, .bool false, .ref s.heap.objs.size, rawInt 0, .none, .none] }) rfl
    rw [zz] at this; exact this
  refine ⟨⟨_, isE, rfl⟩, h _ isE (Heap.get?_push_of_some _ (Heap.get?_push_size _ B.free)) (by rw [Heap.size_push, zz]) fun b o x => Heap.get?_push_of_some _ (Heap.get?_push_of_some _ x)⟩
end PySem
namespace Q
open PySem PySem.Spec PyProof.Rows L2
/-- the tuple at a, each item in a new pair -/
def IteT (K : PySem.W.Frag) (a : Addr) : L2.It :=
  ⟨fun i H => ∃ (xs : List L2.V) (x : L2.V), SqT K H a xs ∧ xs[i]? = some x, fun i H v H' => ∃ T x, v = .ref T ∧ H T = none ∧ H' = upd H T (.tup [.int (i : Nat), x]) ∧ ∀ xs, SqT K H a xs → xs[i]? = some x, fun i H => ∃ xs : List L2.V, SqT K H a xs ∧ xs.length = i⟩
theorem turn_enumT {P : Program} {w : World} {K : PySem.W.Frag} {elts : List Expr} {kk : Nat} {tpos : Pos} (a e it : Addr) (hae : a ≠ e) (hai : a ≠ it) :
    Turn P w K (.Tuple elts kk tpos) (IteT K a) [e, it] e (fun i h => (∃ prev, IsEnum h e it ((i : Nat) : Int) prev) ∧ h.IsTupleIter it a i ∧ e ≠ it) where
  mem := by simp
  obj := fun i h st b inb => by
    obtain ⟨⟨prev, isE⟩, ⟨o, ho, ofC, dat⟩, _⟩ := st
    have oneOf : b = e ∨ b = it := by simpa using inb
    rcases oneOf with z | z
    · rw [z]; exact ⟨_, isE, fun v q => nomatch q⟩
    · rw [z]; exact ⟨o, ho, fun v q => by rw [dat] at q; cases q⟩
  keep := fun i h h' st k => let ⟨⟨prev, isE⟩, hi, apart⟩ := st; ⟨⟨prev, k e (by simp) _ isE⟩, hi.at fun o q => k it (by simp) o q, apart⟩
  item := by
    intro X hP hw hK ofC i pins s σ H E I hf st hg
    subst hP hw hK
    obtain ⟨⟨prev, isE⟩, isI, apart⟩ := st
    obtain ⟨xs, x, sq, atX⟩ := hg
    obtain ⟨vals, rvals, p, zz⟩ := I.tuple sq
    obtain ⟨u, atU, relU⟩ := rvals.get atX
    have ltE : e < s.heap.objs.size := Heap.lt_size isE
    have ltI : it < s.heap.objs.size := by obtain ⟨_, q, _⟩ := isI; exact Heap.lt_size q
    have hi : i < vals.toArray.size := by
      have := (List.getElem?_eq_some_iff.mp atU).1
      simpa using this
    have asT : s.heap.IsTuple a vals.toArray := p
    have D := Draws.tuple (prog := X.prog) (w := X.w) (A := X.A.in1) (by show X.A.handled = none; exact I.ok.hd ofC) it a hai vals.toArray
    refine wpAny_pyNext_enum_itemC D isE ⟨isI, asT⟩ hi apart (by simp [apart, Ne.symm hae]) fun y h' tok hy ho hst' pair hsz keeps => ?_
    obtain ⟨hit', pt'⟩ := hst'
    have ey : y = u := by
      rw [show vals.toArray[i]? = vals[i]? by simp, atU] at hy
      exact (Option.some.inj hy).symm
    subst ey
    refine ⟨_, rfl, wpAny_letOwnedTupleGo_enum (s := { s with heap := h', toks := tok + 1 }) ho fun h'' he' same => ?_⟩
    have pair2 : h''.get? s.heap.objs.size = some { cls := .type "tuple", data := .seq #[.int i tok, y] } := (same.2 _ (Nat.ne_of_gt ltE)).trans pair
    have new : ObjOk X.prog X.w (upd H s.heap.objs.size (.tup [.int (i : Nat), x])) h'' s.heap.objs.size (.tup [.int (i : Nat), x]) :=
      ⟨by show 2 ≤ sizeLine; decide, [.int i tok, y], .cons ⟨_, rfl⟩ (.cons relU .nil), ⟨_, pair2, rfl, _, rfl⟩⟩
    have IA : Inv X pins σ (upd H s.heap.objs.size (.tup [.int (i : Nat), x])) { s with heap := h'', toks := tok + 1 } :=
      I.turnedNew (ch := [e, it]) (fun b ob inb q => (same.2 b (fun z => inb (by simp [z]))).trans (keeps b ob (fun z => inb (by simp [z])) (fun z => inb (by simp [z])) q)) hf (Nat.le_refl _) new
    refine ⟨.ref s.heap.objs.size, _, IA, rfl, ⟨_, x, rfl, I.hok.fresh (Nat.le_refl _), rfl, fun ys hy => by rw [I.tuple_inj hy sq]; exact atX⟩, ⟨⟨y, ?_⟩, hit'.at fun o q => (same.2 it (Ne.symm apart)).trans q, apart⟩, fun b inb => ?_⟩
    · have e1 : ((i + 1 : Nat) : Int) = (i : Int) + 1 := by omega
      rw [e1]; exact he'
    · have belowb : b < s.heap.objs.size := by
        have oneOf : b = e ∨ b = it := by simpa using inb
        rcases oneOf with z | z
        · rw [z]; exact ltE
        · rw [z]; exact ltI
      rw [upd_ne (Nat.ne_of_lt belowb)]
      exact (hf b inb).1
  done := by
    intro X hP hw hK ofC i pins s σ H E I hf st hg
    subst hP hw hK
    obtain ⟨⟨prev, isE⟩, isI, apart⟩ := st
    obtain ⟨xs, sq, atX⟩ := hg
    obtain ⟨vals, rvals, p, zz⟩ := I.tuple sq
    have hl := rvals.length
    have asT : s.heap.IsTuple a vals.toArray := p
    have D := Draws.tuple (prog := X.prog) (w := X.w) (A := X.A.in1) (by show X.A.handled = none; exact I.ok.hd ofC) it a hai vals.toArray
    have en : vals.toArray.size = i := by rw [List.size_toArray]; omega
    rw [en] at D
    refine wpAny_pyNext_enum_endD D isE ⟨isI, asT⟩ fun h' eb => ⟨rfl, I.turnedL (t' := s.toks) (ch := [e, it]) (fun b o inb q => eb b o (fun z => inb (by simp [z])) q) hf⟩
  self := fun A i s Q E st h => let ⟨⟨_, isE⟩, _⟩ := st; wpAny_pyIter_enum isE h
def iEnumA (K : PySem.W.Frag) (ta : TA) : TI := fun σ H R => ta σ H fun vs HA => ∃ a xs, vs = [.ref a] ∧ SqT K HA a xs ∧ R (IteT K a) HA
theorem pi_enumA {X : Cx} {e : Expr} {ta : TA} {p pos tpos : Pos} {elts : List Expr} {kk : Nat} (hg : Gl X "enumerate") (hm : X.mg "enumerate" = none) (ha : PA X [e] ta) (hs : starEach [e] X.env = [(false, eval e X.env)] := by rfl) :
    PI X (.Tuple elts kk tpos) (.Call (.Name "enumerate" p) [e] [] pos) (iEnumA X.K ta) := by
  refine ⟨fun pins s σ H R I h => ?_⟩
  refine Call_ (ld_blt I hg hm boot_enumerate (PyProof.Rows.callWith_type1 (thn (ha.run pos pins s σ H _ I h) fun us sA ⟨vs, HA, IA, rA, qA⟩ => ?_) hs rfl))
  obtain ⟨a, xs, ex, sq, q⟩ := qA
  subst ex
  cases rA with
  | cons r rr =>
    cases rr
    cases r
    obtain ⟨vals, rvals, p', zz⟩ := IA.tuple sq
    have asT : sA.heap.IsTuple a vals.toArray := p'
    refine call_enumerate_B (begins_tuple a vals.toArray) asT fun h' isE isI hsz keeps => wpAny_pyIter_enum isE ?_
    have IB : Inv X pins σ HA { sA with heap := h' } := IA.kept (t' := sA.toks) keeps
    have hal : a < sA.heap.objs.size := by obtain ⟨o, ho, _⟩ := p'; exact Heap.lt_size ho
    refine ⟨sA.heap.objs.size + 1, [sA.heap.objs.size + 1, sA.heap.objs.size], _, _, HA, rfl, IB, turn_enumT a (sA.heap.objs.size + 1) sA.heap.objs.size (Nat.ne_of_lt (Nat.lt_succ_of_lt hal)) (Nat.ne_of_lt hal), ⟨⟨.none, isE⟩, ⟨_, isI, rfl, rfl⟩, Nat.succ_ne_self _⟩, fun b inb => ?_, q⟩
    have oneOf : b = sA.heap.objs.size + 1 ∨ b = sA.heap.objs.size := by simpa using inb
    have lowb : sA.heap.objs.size ≤ b := by
      rcases oneOf with z | z
      · rw [z]; exact Nat.le_add_right _ _
      · rw [z]; exact Nat.le_refl _
    exact IA.fpOk lowb (IA.hok.fresh lowb)
theorem walk_enumT {K : PySem.W.Frag} {a : Addr} {xs : List L2.V} : Walk (IteT K a) xs.length (fun H => SqT K H a xs) (YPair (fun i => some (.int (i : Nat))) (fun i => xs[i]?)) :=
  ⟨fun i H hi h => ⟨xs, xs[i], h, by simp [hi]⟩, fun H h => ⟨xs, h, rfl⟩, fun i H x H' hi h ⟨T, y, e, hn, oneOf, f⟩ => ⟨T, _, y, e, hn, oneOf, rfl, f xs h⟩⟩
theorem walk_zipT {K : PySem.W.Frag} {a b : Addr} {xs ys : List L2.V} {n : Nat} (hn : n = min xs.length ys.length) : Walk (RZ.ItzT K a b) n (fun H => SqT K H a xs ∧ SqT K H b ys) (YPair (fun i => xs[i]?) (fun i => ys[i]?)) :=
  ⟨fun i H hi h => ⟨xs, ys, xs[i]'(by omega), ys[i]'(by omega), h.1, h.2, by simp [show i < xs.length by omega], by simp [show i < ys.length by omega]⟩,
    fun H h => ⟨xs, ys, h.1, h.2, by omega⟩, fun i H x H' hi h ⟨T, y, z, e, hn, oneOf, f, g⟩ => ⟨T, y, z, e, hn, oneOf, f xs h.1, g ys h.2⟩⟩
end Q
end
section
-- Snd7
set_option Elab.async false
set_option linter.all false
set_option maxRecDepth 100000
set_option maxHeartbeats 4000000
namespace Q
open PySem PySem.Spec PyProof.Rows L2

/-! ### the text's form -/
theorem star_cons (env : PySem.Env) : ∀ (m : Nm) (e : E) (ps : PL) (l : List Expr), starEach ((pE m e ps).1 :: l) env = (false, eval (pE m e ps).1 env) :: starEach l env := by
  intro m e ps l
  cases e <;> rfl
theorem star_plain (env : PySem.Env) (pos : Pos) : ∀ (m : Nm) (es : Es) (ps : PL), (backTo pos (starEach (pEs m es ps).1 env)).any (·.1) = false
  | m, .nil, ps => rfl
  | m, .cons e r, ps => by
    have e1 : (pEs m (.cons e r) ps).1 = (pE m e ps).1 :: (pEs m r (pE m e ps).2).1 := by rw [pEs]
    rw [e1, star_cons]
    exact star_plain env pos m r _
theorem asg_each (env : PySem.Env) : ∀ (m : Nm) (t : T) (ps : PL) (l : List Expr), assignEach ((pT m t ps).1 :: l) env = (false, assign (pT m t ps).1 env) :: assignEach l env := by
  intro m t ps l
  cases t <;> rfl
theorem asg_len (env : PySem.Env) : ∀ (m : Nm) (ts : Ts) (ps : PL), (assignEach (pTs m ts ps).1 env).length = (pTs m ts ps).1.length ∧ (assignEach (pTs m ts ps).1 env).findIdx? (·.1) = none
  | m, .nil, ps => ⟨rfl, rfl⟩
  | m, .cons t r, ps => by
    have e1 : (pTs m (.cons t r) ps).1 = (pT m t ps).1 :: (pTs m r (pT m t ps).2).1 := by rw [pTs]
    obtain ⟨h1, h2⟩ := asg_len env m r (pT m t ps).2
    rw [e1, asg_each]
    refine ⟨by rw [List.length_cons, List.length_cons, h1], ?_⟩
    rw [List.findIdx?_cons, h2]
    rfl
theorem no_fold (env : PySem.Env) : ∀ (m : Nm) (it : It) (ps : PL) x, foldedSetIterable (pI m it ps).1 env x = pure x := by
  intro m it ps x
  cases it with
  | seq e => cases e <;> rfl
  | _ => rfl
theorem no_mark (o : CmpOp) : ∀ (m : Nm) (e : E) (ps : PL), behindInMarks o (pE m e ps).1 = false := by
  intro m e ps
  cases e <;> rfl
theorem no_swap (env : PySem.Env) (tg : Option Expr) (l : Nat) : ∀ (m : Nm) (e : E) (ps : PL), (∀ a b c d e', e ≠ .lc a b c d e') → swapsWith (pE m e ps).1 tg l env = pure false := by
  intro m e ps h
  cases e <;> first | rfl | exact absurd rfl (h _ _ _ _ _)

def bnames : List Str := ["len", "abs", "int", "bool", "all", "any", "tuple", "list", "repr", "min", "max", "divmod", "str", "dict", "isinstance", "range", "zip", "enumerate"]
section
variable (RX : RXT)
/-- a call's promise -/
def spC (K : PySem.W.Frag) (call : Nat → List D → Store → Res R) (f : Nat) : Sp := fun vs H Q E => ∃ ds μ S, SR K H μ S ∧ RDs K H μ ds vs ∧ Out RX K E H μ (call f ds S) fun r S' H' μ' => ∀ v, RR K H H' μ' r v → Q v H'
/-- where one stands -/
structure Site (C : Ctx) (call : Nat → List D → Store → Res R) (m : Nm) (X : Cx) (W : WX) : Prop where
  sc : X.env.scope = m.sc
  nN : X.N = m.N
  nd : m.N.Nodup
  calm : X.calm = true
  fs : ∀ x, m.fs x = true → X.fn x = true
  tk : Takes X W
  bt : ∀ x ∈ bnames, X.mg x = none
  gl : ∀ (j : Nat) d, C.glb[j]? = some d → ∃ v u, X.mg (nmOf m.gl j) = some u ∧ RelV v u ∧ ∀ H μ, RD X.K H μ d v
  un : X.A.units + 100 < cLine
  fn : ∀ f x np nd, m.fn[f]? = some (x, np, nd) → ∃ F fa fd ps k, C.fns[f]? = some F ∧ F.np = np ∧ F.df.length = nd ∧ X.mg x = some (.ref fa) ∧ PySem.W.keepIn X.K (.ref fa) = true ∧
    FnOk X.prog X.w X.K X.mg X.base (L2.CX X.prog X.w) k fa fd ps (spC RX X.K call f) ∧ Room k X.A ∧
    ∀ n, n ≤ np → np ≤ n + nd → ∃ us dvs, Binds X.K fd ps us ∧ Vals dvs us ∧ ∀ H μ, RDs X.K H μ (F.df.drop (F.df.length - (F.np - n))) dvs
end
section
variable {RX : RXT} {C : Ctx} {call : Nat → List D → Store → Res R} {m : Nm} {X : Cx} {W : WX}
theorem Site.g (st : Site RX C call m X W) {x : Str} (h : isG m x = true) : Gl X x ∧ (x == ("__debug__" : Str)) = false ∧ x ≠ "__name__" := by
  unfold isG at h
  rw [Bool.and_eq_true, Bool.and_eq_true] at h
  obtain ⟨⟨h1, h2⟩, h3⟩ := h
  refine ⟨?_, by simpa using h2, by simpa using h3⟩
  show X.env.scope.names.lookup x = some .globalImplicit
  rw [st.sc]
  exact eq_of_beq h1
theorem kindV_of {k : Option NameKind} (h : kindV k = true) : k = some .local ∨ k = some .cell ∨ k = some .free := by
  unfold kindV at h
  rw [Bool.or_eq_true, Bool.or_eq_true] at h
  rcases h with (h | h) | h
  · exact .inl (eq_of_beq h)
  · exact .inr (.inl (eq_of_beq h))
  · exact .inr (.inr (eq_of_beq h))
theorem nm_at {l : List Str} {i : Nat} (h : i < l.length) : l[i]? = some (nmOf l i) := by
  unfold nmOf
  rw [List.getD_eq_getElem?_getD, List.getElem?_eq_getElem h]
  rfl
theorem Site.v (st : Site RX C call m X W) {i : Nat} (h : isV m i = true) : X.N[i]? = some (nmOf m.N i) ∧ Vis X.env.scope (nmOf m.N i) ∧ (nmOf m.N i == ("__debug__" : Str)) = false ∧ (nmOf m.N i == ("__classdict__" : Str)) = false := by
  unfold isV at h
  rw [Bool.and_eq_true, Bool.and_eq_true, Bool.and_eq_true] at h
  obtain ⟨⟨⟨h1, h2⟩, h3⟩, h4⟩ := h
  refine ⟨by rw [st.nN]; exact nm_at (Nat.blt_eq.mp h1), ?_, by simpa using h3, by simpa using h4⟩
  unfold Vis
  rw [st.sc]
  exact kindV_of h2
theorem Site.a (st : Site RX C call m X W) {i : Nat} (h : isA m i = true) : X.N[i]? = some (nmOf m.N i) ∧ L2.Loc X.env.scope (nmOf m.N i) ∧ (X.fn (nmOf m.N i) = true ∨ X.env.scope.names.lookup (nmOf m.N i) = some .local) := by
  unfold isA at h
  rw [Bool.and_eq_true, Bool.or_eq_true, Bool.and_eq_true] at h
  obtain ⟨h1, h2⟩ := h
  refine ⟨by rw [st.nN]; exact nm_at (Nat.blt_eq.mp h1), ?_, ?_⟩
  · unfold L2.Loc
    rw [st.sc]
    rcases h2 with h2 | ⟨h2, _⟩
    · exact .inl (eq_of_beq h2)
    · exact .inr (eq_of_beq h2)
  · rw [st.sc]
    rcases h2 with h2 | ⟨_, h2⟩
    · exact .inr (eq_of_beq h2)
    · exact .inl (st.fs _ h2)
theorem Site.b (st : Site RX C call m X W) {x : Str} (h : x ∈ bnames) : X.mg x = none := st.bt x h

/-! ### one after another -/
variable {K : PySem.W.Frag} {H H0 : Hp} {μ μ0 : List Addr} {S : Store} {ρ : Env} {σ : L2.St} {β : Type} {p : β → Store → Hp → List Addr → Prop}
theorem Out.eqn {α : Type} {E : XK} {r : Res α} {p : α → Store → Hp → List Addr → Prop} (h : Out RX K E H μ r p) : Out RX K E H μ r fun a S' H' μ' => r = .ok a S' ∧ p a S' H' μ' := by
  cases r with
  | ok a S' => exact fun H' μ' s t => ⟨rfl, h H' μ' s t⟩
  | err x S' => exact h
  | bad => exact h
theorem seqE {f : Env → Store → Res R} {g : R → Store → Res β} {Q : VK} (st : Step H0 μ0 H μ) (t : SR K H μ S) (r : RE K H μ ρ σ) (h : Out RX K (fun c d H' => W c d σ H') H0 μ0 ((f ρ S).bind g) p)
    (k : ∀ a S1 H1 μ1 v, Step H0 μ0 H1 μ1 → Step H μ H1 μ1 → SR K H1 μ1 S1 → RE K H1 μ1 ρ σ → RR K H H1 μ1 a v → Out RX K (fun c d H' => W c d σ H') H0 μ0 (g a S1) p → Q v H1) : tE RX K W f σ H Q :=
  ⟨ρ, μ, S, t, r, (Out.bind st h).imp fun a S1 H1 μ1 s1 t1 ⟨st1, _, _, h1⟩ v hv => k a S1 H1 μ1 v st1 s1 t1 (r.step s1) hv h1⟩
theorem seqA {f : Env → Store → Res (List D)} {g : List D → Store → Res β} {Q : List L2.V → Hp → Prop} (st : Step H0 μ0 H μ) (t : SR K H μ S) (r : RE K H μ ρ σ) (h : Out RX K (fun c d H' => W c d σ H') H0 μ0 ((f ρ S).bind g) p)
    (k : ∀ a S1 H1 μ1 v, Step H0 μ0 H1 μ1 → Step H μ H1 μ1 → SR K H1 μ1 S1 → RE K H1 μ1 ρ σ → RDs K H1 μ1 a v → f ρ S = .ok a S1 → Out RX K (fun c d H' => W c d σ H') H0 μ0 (g a S1) p → Q v H1) : tA RX K W f σ H Q := by
  refine ⟨ρ, μ, S, t, r, ?_⟩
  have h2 := (Out.bind st h).eqn
  exact h2.imp fun a S1 H1 μ1 s1 t1 ⟨e, st1, _, _, h1⟩ v hv => k a S1 H1 μ1 v st1 s1 t1 (r.step s1) hv e h1
theorem seqT {f : Env → Store → Res Bool} {g : Bool → Store → Res β} {Q : Bool → Hp → Prop} (st : Step H0 μ0 H μ) (t : SR K H μ S) (r : RE K H μ ρ σ) (h : Out RX K (fun c d H' => W c d σ H') H0 μ0 ((f ρ S).bind g) p)
    (k : ∀ a S1 H1 μ1, Step H0 μ0 H1 μ1 → Step H μ H1 μ1 → SR K H1 μ1 S1 → RE K H1 μ1 ρ σ → Out RX K (fun c d H' => W c d σ H') H0 μ0 (g a S1) p → Q a H1) : tT RX K W f σ H Q :=
  ⟨ρ, μ, S, t, r, (Out.bind st h).imp fun a S1 H1 μ1 s1 t1 ⟨st1, _, _, h1⟩ => k a S1 H1 μ1 st1 s1 t1 (r.step s1) h1⟩
/-- the same answer -/
theorem sameE {f : Env → Store → Res R} {Q : VK} (st : Step H0 μ0 H μ) (t : SR K H μ S) (r : RE K H μ ρ σ) (h : Out RX K (fun c d H' => W c d σ H') H0 μ0 (f ρ S) fun a S' H' μ' => ∀ v, RR K H0 H' μ' a v → Q v H') : tE RX K W f σ H Q :=
  ⟨ρ, μ, S, t, r, (Out.at st h).imp fun a S1 H1 μ1 s1 t1 h1 v hv => h1 v (hv.base st.live)⟩
theorem constE {d : D} {v : L2.V} {Q : VK} (hd : ∀ H μ, RD K H μ d v) (h : tE RX K W (fun _ S => .ok (.v d) S) σ H Q) : Q v H := by
  obtain ⟨ρ, μ, S, t, r, h⟩ := h
  exact h H μ .refl t v (hd H μ)
theorem evEs_len : ∀ (es : Es) (ρ : Env) (S : Store) (ds : List D) (S' : Store), evEs C call es ρ S = .ok ds S' → ds.length = es.len
  | .nil, ρ, S, ds, S', e => by
    rw [evEs] at e
    cases e
    rfl
  | .cons e' r, ρ, S, ds, S', e => by
    rw [evEs] at e
    cases h1 : evE C call e' ρ S with
    | ok a S1 =>
      rw [h1] at e
      have key : ∀ d S2, ((evEs C call r ρ S2).bind fun ds S => Res.ok (d :: ds) S) = .ok ds S' → ds.length = (Es.cons e' r).len := fun d S2 e => by
        cases h2 : evEs C call r ρ S2 with
        | ok b S3 =>
          rw [h2] at e
          cases e
          have := evEs_len r ρ S2 b _ h2
          rw [List.length_cons, this]
          rfl
        | err x S3 => rw [h2] at e; cases e
        | bad => rw [h2] at e; cases e
      cases a with
      | v d => exact key _ _ e
      | t ds' => exact key _ _ e
    | err x S1 => rw [h1] at e; cases e
    | bad => rw [h1] at e; cases e
end
end Q
end
section
-- Snd8
set_option Elab.async false
set_option linter.all false
set_option maxRecDepth 100000
set_option maxHeartbeats 4000000
namespace Q
open PySem PySem.Spec PyProof.Rows L2

/-! ### what is walked -/
structure Wk (K : PySem.W.Frag) (J : L2.It) (ds : List D) (G : Option Addr → Hp → List Addr → Prop) : Prop where
  goes : ∀ D i H μ, i < ds.length → G D H μ → J.go i H
  stops : ∀ D H μ, G D H μ → J.stop ds.length H
  yields : ∀ D (i : Nat) H μ x H' d, ds[i]? = some d → G D H μ → J.yld i H x H' → (∀ a o, H a = some o → H' a = some o) ∧ RD K H' μ d x
  stab : ∀ D H μ H' μ', G D H μ → StepD D H μ H' μ' → G D H' μ'
def ItR (K : PySem.W.Frag) (H : Hp) (μ : List Addr) : Iter → L2.It → Prop
  | .its ds, J => ds.length ≤ sizeLine ∧ ∃ G, Wk K J ds G ∧ ∀ D, (∀ d, D = some d → H d = none) → G D H μ
  | .live n, J => ∃ a, μ[n]? = some a ∧ J = Itl K a
section
variable {K : PySem.W.Frag} {H H0 : Hp} {μ μ0 : List Addr} {S : Store}
theorem line_of (P : Program) (w : World) {h : Heap} {a : Addr} {xs : List L2.V} (t : HOk P w H h) (hs : Rd H a (.tup xs)) : xs.length ≤ sizeLine := by
  have q := Rd.ok hs t
  exact q.1
theorem wk_tup {a : Addr} {vs : List L2.V} {ds : List D} : Wk K (Itt K a) ds fun _ H μ => SqT K H a vs ∧ RDs K H μ ds vs :=
  ⟨fun _ i H μ hi ⟨h1, h2⟩ => by
      have hl := h2.length
      exact ⟨vs, vs[i]'(by omega), h1, by simp [show i < vs.length by omega]⟩,
    fun _ H μ ⟨h1, h2⟩ => ⟨vs, h1, by rw [h2.length]; exact Nat.le_refl _⟩,
    fun _ i H μ x H' d hd ⟨h1, h2⟩ ⟨e, hy⟩ => by
      subst e
      obtain ⟨v, e1, e2⟩ := h2.get hd
      have e3 := hy vs h1
      rw [e1] at e3
      cases e3
      exact ⟨fun _ _ z => z, e2⟩,
    fun _ H μ H' μ' ⟨h1, h2⟩ s => ⟨SqT.mono' s.tups h1, h2.step s⟩⟩
theorem wk_lst {a : Addr} {vs : List L2.V} {ds : List D} : Wk K (Itl K a) ds fun D H μ => H a = some (.lst vs) ∧ a ∉ μ ∧ some a ≠ D ∧ RDs K H μ ds vs :=
  ⟨fun _ i H μ hi ⟨h1, _, _, h2⟩ => by
      have hl := h2.length
      exact ⟨vs, vs[i]'(by omega), SqL.of h1, by simp [show i < vs.length by omega]⟩,
    fun _ H μ ⟨h1, _, _, h2⟩ => ⟨vs, SqL.of h1, by rw [h2.length]; exact Nat.le_refl _⟩,
    fun _ i H μ x H' d hd ⟨h1, _, _, h2⟩ ⟨e, hy⟩ => by
      subst e
      obtain ⟨v, e1, e2⟩ := h2.get hd
      have e3 := hy vs (SqL.of h1)
      rw [e1] at e3
      cases e3
      exact ⟨fun _ _ z => z, e2⟩,
    fun _ H μ H' μ' ⟨h1, h0, hd, h2⟩ s => ⟨s.keepD _ _ h1 h0 hd, s.notin h1 h0, hd, h2.step s⟩⟩
theorem range_len (i j : Int) : (range i j).length = (j - i).toNat := by
  unfold range
  rw [List.length_map, List.length_range]
theorem range_at (i j : Int) (k : Nat) (d : D) (h : (range i j)[k]? = some d) : d = .int (i + k) := by
  unfold range at h
  rw [List.getElem?_map] at h
  by_cases hk : k < (j - i).toNat
  · rw [List.getElem?_range hk] at h
    exact (Option.some.inj h).symm
  · rw [List.getElem?_eq_none (by simpa using hk)] at h
    cases h
theorem wk_range {i j : Int} : Wk K (Itr i (j - i).toNat) (range i j) fun _ _ _ => True :=
  ⟨fun _ k H μ hk _ => by rw [range_len] at hk; exact hk, fun _ H μ _ => by rw [range_len]; exact Nat.le_refl _,
    fun _ k H μ x H' d hd _ ⟨e, ex⟩ => by
      subst e
      subst ex
      rw [range_at i j k d hd]
      exact ⟨fun _ _ z => z, .int _⟩,
    fun _ _ _ _ _ _ _ => trivial⟩
theorem wk_zip {a b : Addr} {xs ys : List L2.V} {ds es : List D} : Wk K (RZ.ItzT K a b) ((ds.zip es).map fun p => .tup [p.1, p.2]) fun _ H μ => (SqT K H a xs ∧ SqT K H b ys) ∧ RDs K H μ ds xs ∧ RDs K H μ es ys :=
  ⟨fun _ i H μ hi ⟨h, q1, q2⟩ => by
      rw [List.length_map, List.length_zip, q1.length, q2.length] at hi
      exact (walk_zipT rfl).goes i H hi h,
    fun _ H μ ⟨h, q1, q2⟩ => by
      rw [List.length_map, List.length_zip, q1.length, q2.length]
      exact (walk_zipT rfl).stops H h,
    fun _ i H μ x H' d hd ⟨h, q1, q2⟩ hy => by
      have hi : i < min xs.length ys.length := by
        have := (List.getElem?_eq_some_iff.mp hd).1
        rw [List.length_map, List.length_zip, q1.length, q2.length] at this
        exact this
      obtain ⟨T, y, z, e1, hn, e2, ex, ey⟩ := (walk_zipT (K := K) (a := a) (b := b) (xs := xs) (ys := ys) rfl).yields i H x H' hi h hy
      subst e1
      subst e2
      have h1' : i < ds.length := by rw [q1.length]; omega
      have h2' : i < es.length := by rw [q2.length]; omega
      have e3 : (ds.zip es)[i]? = some (ds[i], es[i]) := by
        rw [List.getElem?_zip_eq_some]
        exact ⟨List.getElem?_eq_getElem h1', List.getElem?_eq_getElem h2'⟩
      rw [List.getElem?_map, e3] at hd
      cases hd
      obtain ⟨v1, f1, g1⟩ := q1.get (List.getElem?_eq_getElem h1')
      obtain ⟨v2, f2, g2⟩ := q2.get (List.getElem?_eq_getElem h2')
      have ex : xs[i]? = some y := ex
      have ey : ys[i]? = some z := ey
      rw [ex] at f1
      rw [ey] at f2
      cases f1
      cases f2
      exact ⟨grow_upd hn, new_tup (.cons g1 (.cons g2 .nil)) hn⟩,
    fun _ H μ H' μ' ⟨⟨h1, h2⟩, q1, q2⟩ s => ⟨⟨SqT.mono' s.tups h1, SqT.mono' s.tups h2⟩, q1.step s, q2.step s⟩⟩
theorem wk_enum {a : Addr} {xs : List L2.V} {ds : List D} : Wk K (IteT K a) (ds.zipIdx.map fun p => .tup [.int p.2, p.1]) fun _ H μ => SqT K H a xs ∧ RDs K H μ ds xs :=
  ⟨fun _ i H μ hi ⟨h, q1⟩ => by
      rw [List.length_map, List.length_zipIdx, q1.length] at hi
      exact walk_enumT.goes i H hi h,
    fun _ H μ ⟨h, q1⟩ => by
      rw [List.length_map, List.length_zipIdx, q1.length]
      exact walk_enumT.stops H h,
    fun _ i H μ x H' d hd ⟨h, q1⟩ hy => by
      have hi : i < xs.length := by
        have := (List.getElem?_eq_some_iff.mp hd).1
        rw [List.length_map, List.length_zipIdx, q1.length] at this
        exact this
      obtain ⟨T, y, z, e1, hn, e2, ex, ey⟩ := (walk_enumT (K := K) (a := a) (xs := xs)).yields i H x H' hi h hy
      subst e1
      subst e2
      cases ex
      have hd' : i < ds.length := by rw [q1.length]; exact hi
      have e3 : ds.zipIdx[i]? = some (ds[i], i) := by
        rw [List.getElem?_zipIdx, List.getElem?_eq_getElem hd']
        simp
      rw [List.getElem?_map, e3] at hd
      cases hd
      obtain ⟨v1, f1, g1⟩ := q1.get (List.getElem?_eq_getElem hd')
      have ey : xs[i]? = some z := ey
      rw [ey] at f1
      cases f1
      exact ⟨grow_upd hn, new_tup (.cons (.int _) (.cons g1 .nil)) hn⟩,
    fun _ H μ H' μ' ⟨h1, q1⟩ s => ⟨SqT.mono' s.tups h1, q1.step s⟩⟩
end
/-- the lengths that the heap has -/
structure Lens (K : PySem.W.Frag) (H : Hp) : Prop where
  tup : ∀ a xs, SqT K H a xs → xs.length ≤ sizeLine
  lst : ∀ a xs, H a = some (.lst xs) → xs.length ≤ sizeLine
theorem _root_.L2.PI.lens {X : Cx} {tg iter : Expr} {wi : TI} (h : PI X tg iter wi) : PI X tg iter fun σ H R => wi σ H fun J H1 => Lens X.K H1 → R J H1 := by
  refine ⟨fun pins s σ H R I hw => ?_⟩
  refine thn (h.run pins s σ H _ I hw) fun v s1 h1 => thn h1 fun itv s2 ⟨it, fp, tn, J, H', e, I2, T, t2, f2, r⟩ => ⟨it, fp, tn, J, H', e, I2, T, t2, f2, r ⟨fun a xs q => ?_, fun a xs q => ?_⟩⟩
  · obtain ⟨_, _, _, hz⟩ := I2.tuple q
    exact hz
  · exact (show ObjOk X.prog X.w H' s2.heap a (.lst xs) from I2.hok a _ q).1
theorem _root_.L2.PI.imp {X : Cx} {tg iter : Expr} {wi wi' : TI} (h : PI X tg iter wi) (f : ∀ σ H R, wi' σ H R → wi σ H R) : PI X tg iter wi' := ⟨fun pins s σ H R I z => h.run pins s σ H R I (f σ H R z)⟩
def iI (RX : RXT) (K : PySem.W.Frag) (W : WX) (f : Env → Store → Res Iter) : TI := fun σ H R => ∃ ρ μ S, SR K H μ S ∧ RE K H μ ρ σ ∧ Out RX K (fun c d H' => W c d σ H') H μ (f ρ S) fun I S' H' μ' => Lens K H' → ∀ J, ItR K H' μ' I J → R J H'

/-! ### a loop, a comprehension -/
section
variable {RX : RXT} {K : PySem.W.Frag} {E : XK} {H H0 : Hp} {μ μ0 : List Addr} {S : Store} {ρ : Env} {σ : L2.St}
/-- a comprehension's reading -/
theorem lc_snd {W : WX} {step : D → Store → Res (Option D)} {I : Iter} {J : L2.It} {g : TG} {tt : TT} {te : TE} {vs : List Nat} {D : Addr} {Qd : Hp → Prop} {p : List Q.D → Store → Hp → List Addr → Prop}
    (st : Step H0 μ0 H μ) (t : SR K H μ S) (r : RE K H μ ρ σ) (ln : Lens K H) (hJ : ItR K H μ I J) (hD : H D = none)
    (h : Out RX K E H0 μ0 (over step I S) p)
    (turn : ∀ (d : Q.D) x H μ S acc avs (q : Option Q.D → Store → Res (List Q.D)), Step H0 μ0 H μ → SR K H μ S → RE K H μ ρ σ → RD K H μ d x → H D = some (.lst avs) → D ∉ μ → RDs K H μ acc avs → acc.length < sizeLine → Out RX K E H0 μ0 ((step d S).bind q) p →
      ∀ N : Hp → Prop,
      (∀ d' H' μ' S' avs', Step H0 μ0 H' μ' → StepD (some D) H μ H' μ' → SR K H' μ' S' → RE K H' μ' ρ σ → H' D = some (.lst avs') → D ∉ μ' → (match d' with | some e => RDs K H' μ' (acc ++ [e]) avs' | none => RDs K H' μ' acc avs') → Out RX K E H0 μ0 (q d' S') p → N H') →
      g x (L2.wipe σ vs) H fun σ2 H2 => L2.wipe σ2 vs = L2.wipe σ vs ∧ tt σ2 H2 fun b H3 => if b = true then te σ2 H3 fun y H4 => ∃ acc, H4 D = some (.lst acc) ∧ acc.length < sizeLine ∧ N (upd H4 D (.lst (acc ++ [y]))) else N H3)
    (done : ∀ ds S' H' μ' avs, Step H0 μ0 H' μ' → SR K H' μ' S' → H' D = some (.lst avs) → D ∉ μ' → RDs K H' μ' ds avs → p ds S' H' μ' → Qd H') :
    ∃ W : Nat → Nat → Hp → Prop, (∃ m, W 0 m (upd H D (.lst []))) ∧ ∀ i m H, W i m H →
      (J.stop i H ∧ Qd H) ∨ (J.go i H ∧ ∃ Nx : Hp → Prop, (∀ H', Nx H' → ∃ m', m' < m ∧ W (i + 1) m' H') ∧ ∀ x H', J.yld i H x H' → g x (L2.wipe σ vs) H' fun σ2 H2 => L2.wipe σ2 vs = L2.wipe σ vs ∧ tt σ2 H2 fun b H3 =>
        if b = true then te σ2 H3 fun y H4 => ∃ acc, H4 D = some (.lst acc) ∧ acc.length < sizeLine ∧ Nx (upd H4 D (.lst (acc ++ [y]))) else Nx H3) := by
  have sD : Step H μ (upd H D (.lst [])) μ := StepD.grow (grow_upd hD)
  have nD : D ∉ μ := not_in t hD
  cases I with
  | its ds =>
    obtain ⟨hz, G, w, hG⟩ := hJ
    have h : Out RX K E H0 μ0 (overL step ds [] S) p := h
    refine ⟨fun i m H => m = ds.length - i ∧ i ≤ ds.length ∧ ∃ μ S acc avs, Step H0 μ0 H μ ∧ SR K H μ S ∧ RE K H μ ρ σ ∧ G (some D) H μ ∧ H D = some (.lst avs) ∧ D ∉ μ ∧ RDs K H μ acc avs ∧ acc.length ≤ i ∧ Out RX K E H0 μ0 (overL step (ds.drop i) acc S) p,
      ⟨ds.length, by simp, Nat.zero_le _, μ, S, [], [], st.new hD, t.new hD, r.step sD, w.stab _ _ _ _ _ (hG (some D) fun d e => by cases e; exact hD) (StepD.grow (grow_upd hD)), upd_same, nD, .nil, Nat.zero_le _, by rw [List.drop_zero]; exact h⟩, ?_⟩
    rintro i m H1 ⟨rfl, hi, μ1, S1, acc, avs, st1, t1, r1, g1, d1, n1, a1, l1, h1⟩
    by_cases hlt : i < ds.length
    · have hd : ds[i]? = some ds[i] := List.getElem?_eq_getElem hlt
      rw [List.drop_eq_getElem_cons hlt] at h1
      refine .inr ⟨w.goes _ i H1 μ1 hlt g1, _, fun H' hN => ⟨ds.length - (i + 1), by omega, rfl, hlt, hN⟩, fun x H' hy => ?_⟩
      obtain ⟨k, rd⟩ := w.yields _ i H1 μ1 x H' _ hd g1 hy
      have s' : Step H1 μ1 H' μ1 := StepD.grow k
      refine turn ds[i] x H' μ1 S1 acc avs _ (st1.trans s') (t1.grow k) (r1.step s') rd (k _ _ d1) n1 (a1.step s') (by omega) h1 _ fun d' H2 μ2 S2 avs2 st2 s2 t2 r2 d2 n2 a2 h2 => ?_
      cases d' with
      | some e => exact ⟨μ2, S2, _, avs2, st2, t2, r2, w.stab _ _ _ _ _ (w.stab _ _ _ _ _ g1 s'.weak) s2, d2, n2, a2, by rw [List.length_append, List.length_singleton]; omega, h2⟩
      | none => exact ⟨μ2, S2, _, avs2, st2, t2, r2, w.stab _ _ _ _ _ (w.stab _ _ _ _ _ g1 s'.weak) s2, d2, n2, a2, by omega, h2⟩
    · have e : i = ds.length := by omega
      subst e
      rw [List.drop_length] at h1
      exact .inl ⟨w.stops _ H1 μ1 g1, done acc S1 H1 μ1 avs st1 t1 d1 n1 a1 (h1 H1 μ1 st1 t1)⟩
  | live n =>
    obtain ⟨a, ha, rfl⟩ := hJ
    unfold over at h
    dsimp only at h
    split at h
    · rename_i ds hs
      have hz : ds.length ≤ sizeLine := by
        obtain ⟨o, o1, vs1, e1, q1⟩ := t.cell n _ _ hs ha
        subst e1
        rw [q1.length]
        exact ln.lst _ _ o1
      refine ⟨fun i m H => i + m = ds.length ∧ ∃ μ S acc avs, Step H0 μ0 H μ ∧ SR K H μ S ∧ RE K H μ ρ σ ∧ μ[n]? = some a ∧ H D = some (.lst avs) ∧ D ∉ μ ∧ RDs K H μ acc avs ∧ acc.length ≤ i ∧ Out RX K E H0 μ0 (overV step n m i acc S) p,
        ⟨ds.length, by omega, μ, S, [], [], st.new hD, t.new hD, r.step sD, ha, upd_same, nD, .nil, Nat.zero_le _, h⟩, ?_⟩
      rintro i m H1 ⟨hi, μ1, S1, acc, avs, st1, t1, r1, g1, d1, n1, a1, l1, h1⟩
      have key : ∀ ds1, S1[n]? = some (.lst ds1) → ∃ vs1, H1 a = some (.lst vs1) ∧ RDs K H1 μ1 ds1 vs1 := fun ds1 e => by
        obtain ⟨o, o1, vs1, e1, q1⟩ := t1.cell n _ _ e g1
        subst e1
        exact ⟨vs1, o1, q1⟩
      have stop : ∀ (ds1 : List Q.D), S1[n]? = some (.lst ds1) → ds1[i]? = none → (Itl K a).stop i H1 := fun ds1 e e2 => by
        obtain ⟨vs1, o1, q1⟩ := key ds1 e
        refine ⟨vs1, SqL.of o1, ?_⟩
        rw [← q1.length]
        exact List.getElem?_eq_none_iff.mp e2
      cases m with
      | zero =>
        unfold overV at h1
        split at h1
        · rename_i ds1 e1
          split at h1
          · rename_i e2
            exact .inl ⟨stop ds1 e1 e2, done acc S1 H1 μ1 avs st1 t1 d1 n1 a1 (h1 H1 μ1 st1 t1)⟩
          · exact h1.elim
        · exact h1.elim
      | succ m =>
        unfold overV at h1
        split at h1
        · rename_i ds1 e1
          split at h1
          · rename_i e2
            exact .inl ⟨stop ds1 e1 e2, done acc S1 H1 μ1 avs st1 t1 d1 n1 a1 (h1 H1 μ1 st1 t1)⟩
          · rename_i d e2
            obtain ⟨vs1, o1, q1⟩ := key ds1 e1
            obtain ⟨v, f1, f2⟩ := q1.get e2
            refine .inr ⟨⟨vs1, v, SqL.of o1, f1⟩, _, fun H' hN => ⟨m, Nat.lt_succ_self _, by omega, hN⟩, fun x H' hy => ?_⟩
            obtain ⟨eH, hy⟩ := hy
            subst eH
            have ex := hy vs1 (SqL.of o1)
            rw [f1] at ex
            cases ex
            refine turn d v H' μ1 S1 acc avs _ st1 t1 r1 f2 d1 n1 a1 (by omega) h1 _ fun d' H2 μ2 S2 avs2 st2 s2 t2 r2 d2 n2 a2 h2 => ?_
            cases d' with
            | some e => exact ⟨μ2, S2, _, avs2, st2, t2, r2, s2.ix g1, d2, n2, a2, by rw [List.length_append, List.length_singleton]; omega, h2⟩
            | none => exact ⟨μ2, S2, _, avs2, st2, t2, r2, s2.ix g1, d2, n2, a2, by omega, h2⟩
        · exact h1.elim
    · exact h.elim
end
end Q
end
section
-- Snd9
set_option Elab.async false
set_option linter.all false
set_option maxRecDepth 100000
set_option maxHeartbeats 4000000
namespace Q
open PySem PySem.Spec PyProof.Rows L2

section
variable {RX : RXT} {C : Ctx} {call : Nat → List D → Store → Res R} {m : Nm} {X : Cx} {W : WX}
def Snd (RX : RXT) (X : Cx) (W : WX) (e : Expr) (f : Env → Store → Res R) : Prop := PE X e (tE RX X.K W f) ∧ PT X e (tT RX X.K W fun ρ S => tru (f ρ S))
theorem opt_bind {α β γ : Type} (o : Option α) (f : α → Res β) (g : β → Store → Res γ) : (Q.opt o f).bind g = Q.opt o fun a => (f a).bind g := by
  cases o <;> rfl
/-- a test by its value -/
theorem both {e : Expr} {f : Env → Store → Res R} (h : PE X e (tE RX X.K W f)) (he : ∀ whole, isTrue e X.env whole = (do let v ← whole; standAt e.pos; holding [v] (truthy v))) : Snd RX X W e f := by
  refine ⟨h, (pt_truth h he).imp fun σ H Q hq => ?_⟩
  obtain ⟨ρ, μ, S, t, r, h⟩ := hq
  exact seqE .refl t r h fun a S1 H1 μ1 v st1 s1 t1 r1 hv h1 => by
    obtain ⟨k, ek, h2⟩ := h1.opt
    exact ⟨k, tru_of t1 hv ek, h2 H1 μ1 st1 t1⟩
theorem sConst {e : Expr} {d : D} {v : L2.V} (h : PE X e (tC v)) (hd : ∀ H μ, RD X.K H μ d v) (he : ∀ whole, isTrue e X.env whole = (do let v ← whole; standAt e.pos; holding [v] (truthy v))) : Snd RX X W e (fun _ S => .ok (.v d) S) :=
  both (h.imp fun σ H Q hq => constE hd hq) he

theorem sVar (st : Site RX C call m X W) {i : Nat} {p : Pos} (h : isV m i = true) : Snd RX X W (.Name (nmOf m.N i) p) (evE C call (.var i)) := by
  obtain ⟨h1, h2, h3, h4⟩ := st.v h
  refine both ((pe_var (i := i) h1 h2 h3 h4).imp fun σ H Q hq => ?_) (by intro _; rfl)
  obtain ⟨ρ, μ, S, t, r, h⟩ := hq
  rw [evE] at h
  split at h
  · rename_i d hd
    obtain ⟨v, e1, e2⟩ := r.at_ i d hd
    exact ⟨v, e1, h H μ .refl t v e2⟩
  · exact h.elim
theorem sGlb (st : Site RX C call m X W) {j : Nat} {p : Pos} (h : kE m (.glb j) = true) : Snd RX X W (.Name (nmOf m.gl j) p) (evE C call (.glb j)) := by
  rw [kE, Bool.and_eq_true] at h
  obtain ⟨hg, hd, hn⟩ := st.g h.2
  cases hd' : C.glb[j]? with
  | none =>
    refine both ⟨fun pins s σ H Q I hq => ?_⟩ (by intro _; rfl)
    obtain ⟨ρ, μ, S, t, r, h⟩ := hq
    rw [evE, hd'] at h
    exact h.elim
  | some d =>
    obtain ⟨v, u, e1, e2, e3⟩ := st.gl j d hd'
    refine both ((pe_glob hg e1 e2 hd).imp fun σ H Q hq => ?_) (by intro _; rfl)
    obtain ⟨ρ, μ, S, t, r, h⟩ := hq
    rw [evE, hd'] at h
    exact h H μ .refl t v (e3 H μ)
theorem sTup {es : Es} {l : List Expr} {k : Nat} {p : Pos} (ha : PA X l (tA RX X.K W (evEs C call es))) (hz : es.len ≤ 5000) : Snd RX X W (.Tuple l k p) (evE C call (.tup es)) := by
  refine both ((pe_tup ha).imp fun σ H Q hq => ?_) (by intro _; rfl)
  obtain ⟨ρ, μ, S, t, r, h⟩ := hq
  rw [evE] at h
  refine seqA .refl t r h fun ds S1 H1 μ1 vs st1 s1 t1 r1 hv e h1 => ⟨?_, fun q hq => h1 _ μ1 (st1.new hq) (t1.new hq) _ (new_tup hv hq)⟩
  rw [← hv.length, evEs_len es ρ S ds S1 e, sizeLine_eq]
  omega
theorem sLst {es : Es} {l : List Expr} {p : Pos} (ha : PA X l (tA RX X.K W (evEs C call es))) (hz : es.len ≤ 5000) : Snd RX X W (.List l p) (evE C call (.lst es)) := by
  refine both ((pe_lst ha).imp fun σ H Q hq => ?_) (by intro _; rfl)
  obtain ⟨ρ, μ, S, t, r, h⟩ := hq
  rw [evE] at h
  refine seqA .refl t r h fun ds S1 H1 μ1 vs st1 s1 t1 r1 hv e h1 => ⟨?_, fun q hq => h1 _ μ1 (st1.new hq) (t1.new hq) _ (new_lst st1 t1 hv hq)⟩
  rw [← hv.length, evEs_len es ρ S ds S1 e, sizeLine_eq]
  omega
theorem sBin {o : Operator} {a b : E} {ea eb : Expr} {p : Pos} (ha : Snd RX X W ea (evE C call a)) (hb : Snd RX X W eb (evE C call b)) : Snd RX X W (.BinOp ea o eb p) (evE C call (.bin o a b)) := by
  refine both ((pe_op (op_bin (RX := RX) o) ha.1 hb.1).imp fun σ H Q hq => ?_) (by intro _; rfl)
  obtain ⟨ρ, μ, S, t, r, h⟩ := hq
  rw [evE] at h
  refine seqE .refl t r h fun x S1 H1 μ1 v st1 s1 t1 r1 hx h1 => seqE st1 t1 r1 h1 fun y S2 H2 μ2 u st2 s2 t2 r2 hy h2 => ?_
  exact ⟨_, H, μ, μ2, S2, x, y, st2, t2, hx.step s2, hy.base st1.live, h2⟩
theorem sNeg {a : E} {ea : Expr} {p : Pos} (ha : Snd RX X W ea (evE C call a)) : Snd RX X W (.UnaryOp .USub ea p) (evE C call (.neg a)) := by
  refine both ((pe_un un_neg ha.1).imp fun σ H Q hq => ?_) (by intro _; rfl)
  obtain ⟨ρ, μ, S, t, r, h⟩ := hq
  rw [evE] at h
  refine seqE .refl t r h fun x S1 H1 μ1 v st1 s1 t1 r1 hx h1 => ?_
  split at h1
  · have e := rd_int hx
    subst e
    exact ⟨_, rfl, h1 H1 μ1 st1 t1 _ (.int _)⟩
  · exact h1.elim
theorem sNot {a : E} {ea : Expr} {p : Pos} (ha : Snd RX X W ea (evE C call a)) : Snd RX X W (.UnaryOp .Not ea p) (evE C call (.not a)) := by
  refine ⟨(pe_notT ha.1).imp fun σ H Q hq => ?_, (pt_not ha.2).imp fun σ H Q hq => ?_⟩
  · obtain ⟨ρ, μ, S, t, r, h⟩ := hq
    rw [evE] at h
    refine seqE .refl t r h fun x S1 H1 μ1 v st1 s1 t1 r1 hx h1 => ?_
    obtain ⟨k, ek, h2⟩ := h1.opt
    exact ⟨k, tru_of t1 hx ek, h2 H1 μ1 st1 t1 _ (.bl _)⟩
  · obtain ⟨ρ, μ, S, t, r, h⟩ := hq
    have e : tru (evE C call (.not a) ρ S) = (tru (evE C call a ρ S)).bind fun k S => .ok (!k) S := by
      rw [evE]
      unfold tru
      rw [Res.assoc, Res.assoc]
      congr 1
      funext x S1
      rw [opt_bind, opt_bind]
      rfl
    dsimp only at h
    rw [e] at h
    exact seqT .refl t r h fun k S1 H1 μ1 st1 s1 t1 r1 h1 => h1 H1 μ1 st1 t1
theorem sCmp (hu : X.A.units + 100 < cLine) {o : CmpOp} {a b : E} {ea eb : Expr} {p : Pos} (ha : Snd RX X W ea (evE C call a)) (hb : Snd RX X W eb (evE C call b)) (hm : behindInMarks o eb = false) : Snd RX X W (.Compare ea [o] [eb] p) (evE C call (.cmp o a b)) := by
  refine ⟨(pe_cmpR (op_cmp (by omega) o) ha.1 hb.1 hm).imp fun σ H Q hq => ?_, (pt_cmpR (op_cmp (by omega) o) ha.1 hb.1 hm).imp fun σ H Q hq => ?_⟩
  · obtain ⟨ρ, μ, S, t, r, h⟩ := hq
    rw [evE] at h
    refine seqE .refl t r h fun x S1 H1 μ1 v st1 s1 t1 r1 hx h1 => seqE st1 t1 r1 h1 fun y S2 H2 μ2 u st2 s2 t2 r2 hy h2 => ?_
    obtain ⟨c, ec, h3⟩ := h2.opt
    exact ⟨H, μ2, S2, x, y, c, t2, hx.step s2, hy.base st1.live, ec, h3 H2 μ2 st2 t2 _ (.bl _)⟩
  · obtain ⟨ρ, μ, S, t, r, h⟩ := hq
    have e : tru (evE C call (.cmp o a b) ρ S) = (evE C call a ρ S).bind fun x S => (evE C call b ρ S).bind fun y S => _root_.Q.opt (evCmp o S x y) fun c => .ok c S := by
      rw [evE]
      unfold tru
      rw [Res.assoc]
      congr 1
      funext x S1
      rw [Res.assoc]
      congr 1
      funext y S2
      rw [opt_bind]
      rfl
    dsimp only at h
    rw [e] at h
    refine seqE .refl t r h fun x S1 H1 μ1 v st1 s1 t1 r1 hx h1 => seqE st1 t1 r1 h1 fun y S2 H2 μ2 u st2 s2 t2 r2 hy h2 => ?_
    obtain ⟨c, ec, h3⟩ := h2.opt
    exact ⟨H, μ2, S2, x, y, c, t2, hx.step s2, hy.base st1.live, ec, c, rfl, h3 H2 μ2 st2 t2⟩
theorem sChn (hu : X.A.units + 100 < cLine) {o o' : CmpOp} {a b c : E} {ea eb ec : Expr} {p : Pos} (ha : Snd RX X W ea (evE C call a)) (hb : Snd RX X W eb (evE C call b)) (hc : Snd RX X W ec (evE C call c)) (hm : lastMarks [o, o'] [eb, ec] = false) :
    Snd RX X W (.Compare ea [o, o'] [eb, ec] p) (evE C call (.chn o o' a b c)) := by
  refine ⟨(pe_chain (op_cmp (by omega) o) (op_cmp (by omega) o') ha.1 hb.1 hc.1 hm).imp fun σ H Q hq => ?_, (pt_chain (op_cmp (by omega) o) (op_cmp (by omega) o') ha.1 hb.1 hc.1 hm).imp fun σ H Q hq => ?_⟩
  · obtain ⟨ρ, μ, S, t, r, h⟩ := hq
    rw [evE] at h
    refine seqE .refl t r h fun x S1 H1 μ1 v st1 s1 t1 r1 hx h1 => seqE st1 t1 r1 h1 fun y S2 H2 μ2 u st2 s2 t2 r2 hy h2 => ?_
    obtain ⟨k, ek, h3⟩ := h2.opt
    refine ⟨H, μ2, S2, x, y, k, t2, hx.step s2, hy.base st1.live, ek, k, rfl, ?_⟩
    cases k with
    | false => exact h3 H2 μ2 st2 t2 _ (.bl _)
    | true =>
      refine seqE st2 t2 r2 h3 fun z S3 H3 μ3 w' st3 s3 t3 r3 hz h4 => ?_
      obtain ⟨k, ek, h5⟩ := h4.opt
      exact ⟨H, μ3, S3, y, z, k, t3, (hy.base st1.live).step s3, hz.base st2.live, ek, h5 H3 μ3 st3 t3 _ (.bl _)⟩
  · obtain ⟨ρ, μ, S, t, r, h⟩ := hq
    have e : tru (evE C call (.chn o o' a b c) ρ S) = (evE C call a ρ S).bind fun x S => (evE C call b ρ S).bind fun y S => _root_.Q.opt (evCmp o S x y) fun k =>
        if k then (evE C call c ρ S).bind fun z S => _root_.Q.opt (evCmp o' S y z) fun k => .ok k S else .ok false S := by
      rw [evE]
      unfold tru
      rw [Res.assoc]
      congr 1
      funext x S1
      rw [Res.assoc]
      congr 1
      funext y S2
      rw [opt_bind]
      congr 1
      funext k
      cases k with
      | false => rfl
      | true =>
        show ((evE C call c ρ S2).bind _).bind _ = _
        rw [Res.assoc]
        show _ = (evE C call c ρ S2).bind _
        congr 1
        funext z S3
        rw [opt_bind]
        rfl
    dsimp only at h
    rw [e] at h
    refine seqE .refl t r h fun x S1 H1 μ1 v st1 s1 t1 r1 hx h1 => seqE st1 t1 r1 h1 fun y S2 H2 μ2 u st2 s2 t2 r2 hy h2 => ?_
    obtain ⟨k, ek, h3⟩ := h2.opt
    refine ⟨H, μ2, S2, x, y, k, t2, hx.step s2, hy.base st1.live, ek, k, rfl, ?_⟩
    cases k with
    | false => exact ⟨false, rfl, h3 H2 μ2 st2 t2⟩
    | true =>
      refine seqE st2 t2 r2 h3 fun z S3 H3 μ3 w' st3 s3 t3 r3 hz h4 => ?_
      obtain ⟨k, ek, h5⟩ := h4.opt
      exact ⟨H, μ3, S3, y, z, k, t3, (hy.base st1.live).step s3, hz.base st2.live, ek, k, rfl, h5 H3 μ3 st3 t3⟩
theorem sIfe {c a b : E} {ec ea eb : Expr} {p : Pos} (hc : Snd RX X W ec (evE C call c)) (ha : Snd RX X W ea (evE C call a)) (hb : Snd RX X W eb (evE C call b)) : Snd RX X W (.IfExp ec ea eb p) (evE C call (.ife c a b)) := by
  have eq1 : ∀ ρ S, evE C call (.ife c a b) ρ S = (tru (evE C call c ρ S)).bind fun k S => if k then evE C call a ρ S else evE C call b ρ S := fun ρ S => by
    rw [evE]
    unfold tru
    rw [Res.assoc]
    congr 1
    funext x S1
    rw [opt_bind]
    rfl
  refine ⟨(pe_ifExp hc.2 ha.1 hb.1).imp fun σ H Q hq => ?_, ⟨fun pins s σ H Q I hq => ?_⟩⟩
  · obtain ⟨ρ, μ, S, t, r, h⟩ := hq
    rw [eq1] at h
    refine seqT .refl t r h fun k S1 H1 μ1 st1 s1 t1 r1 h1 => ?_
    cases k with
    | true => exact sameE st1 t1 r1 h1
    | false => exact sameE st1 t1 r1 h1
  · obtain ⟨ρ, μ, S, t, r, h⟩ := hq
    have e : tru (evE C call (.ife c a b) ρ S) = (tru (evE C call c ρ S)).bind fun k S => if k then tru (evE C call a ρ S) else tru (evE C call b ρ S) := by
      rw [eq1]
      rw [tru, Res.assoc]
      congr 1
      funext k S1
      cases k <;> rfl
    dsimp only at h
    rw [e] at h
    have h' : tT RX X.K W (fun ρ S => tru (evE C call c ρ S)) σ H (fun k H1 => if k = true then tT RX X.K W (fun ρ S => tru (evE C call a ρ S)) σ H1 Q else tT RX X.K W (fun ρ S => tru (evE C call b ρ S)) σ H1 Q) :=
      seqT .refl t r h fun k S1 H1 μ1 st1 s1 t1 r1 h1 => by
        cases k with
        | true => exact ⟨ρ, μ1, S1, t1, r1, Out.at st1 h1⟩
        | false => exact ⟨ρ, μ1, S1, t1, r1, Out.at st1 h1⟩
    refine PyProof.Rows.isTrue_IfExp (thn (hc.2.run pins s σ H _ I h') fun k s1 ⟨H1, I1, q1⟩ => ?_)
    cases k with
    | true => exact ha.2.run pins s1 σ H1 Q I1 q1
    | false => exact hb.2.run pins s1 σ H1 Q I1 q1
end
end Q
end
section
-- Snd10
set_option Elab.async false
set_option linter.all false
set_option maxRecDepth 100000
set_option maxHeartbeats 4000000
namespace Q
open PySem PySem.Spec PyProof.Rows L2

section
variable {RX : RXT} {C : Ctx} {call : Nat → List D → Store → Res R} {m : Nm} {X : Cx} {W : WX}
theorem plainIx (i : E) (ps : PL) : PlainIx (pE m i ps).1 := by
  intro o k
  cases i <;> rfl
theorem sIdx {a i : E} {ea : Expr} {ps : PL} {p : Pos} (ha : Snd RX X W ea (evE C call a)) (hi : Snd RX X W (pE m i ps).1 (evE C call i)) : Snd RX X W (.Subscript ea (pE m i ps).1 p) (evE C call (.idx a i)) := by
  refine both ((pe_ix ix_all ha.1 hi.1 (plainIx i ps)).imp fun σ H Q hq => ?_) (by intro _; rfl)
  obtain ⟨ρ, μ, S, t, r, h⟩ := hq
  rw [evE] at h
  refine seqE .refl t r h fun x S1 H1 μ1 v st1 s1 t1 r1 hx h1 => seqE st1 t1 r1 h1 fun y S2 H2 μ2 u st2 s2 t2 r2 hy h2 => ?_
  obtain ⟨d, ed, h3⟩ := h2.opt
  exact ⟨H, μ2, S2, x, y, d, t2, hx.step s2, hy.base st1.live, ed, fun v hv => h3 H2 μ2 st2 t2 v hv⟩
/-- a slice's part -/
def tO (RX : RXT) (K : PySem.W.Frag) (W : WX) (f : Env → Store → Res (Option Int)) : TO := fun σ H Q => ∃ ρ μ S, SR K H μ S ∧ RE K H μ ρ σ ∧ Out RX K (fun c d H' => W c d σ H') H μ (f ρ S) fun b S' H' μ' => Q b H'
theorem seqO {K : PySem.W.Frag} {H H0 : Hp} {μ μ0 : List Addr} {S : Store} {ρ : Env} {σ : L2.St} {β : Type} {p : β → Store → Hp → List Addr → Prop} {f : Env → Store → Res (Option Int)} {g : Option Int → Store → Res β} {Q : Option Int → Hp → Prop} (st : Step H0 μ0 H μ) (t : SR K H μ S) (r : RE K H μ ρ σ) (h : Out RX K (fun c d H' => W c d σ H') H0 μ0 ((f ρ S).bind g) p)
    (k : ∀ a S1 H1 μ1, Step H0 μ0 H1 μ1 → Step H μ H1 μ1 → SR K H1 μ1 S1 → RE K H1 μ1 ρ σ → Out RX K (fun c d H' => W c d σ H') H0 μ0 (g a S1) p → Q a H1) : tO RX K W f σ H Q :=
  ⟨ρ, μ, S, t, r, (Out.bind st h).imp fun a S1 H1 μ1 s1 t1 ⟨st1, _, _, h1⟩ => k a S1 H1 μ1 st1 s1 t1 (r.step s1) h1⟩
theorem _root_.L2.PO.imp {X : Cx} {e : Option Expr} {t t' : TO} (h : PO X e t) (f : ∀ σ H Q, t' σ H Q → t σ H Q) : PO X e t' := ⟨fun pins s σ H Q I z => h.run pins s σ H Q I (f σ H Q z)⟩
theorem _root_.L2.PTs.imp {X : Cx} {e : List Expr} {t t' : TT} (h : PTs X e t) (f : ∀ σ H Q, t' σ H Q → t σ H Q) : PTs X e t' := ⟨fun pins s σ H Q I z => h.run pins s σ H Q I (f σ H Q z)⟩
theorem sSlc {a : E} {lo hi : Eo} {ea : Expr} {l h : Option Expr} {p p2 : Pos} (ha : Snd RX X W ea (evE C call a)) (hl : PO X l (tO RX X.K W (evB C call lo))) (hh : PO X h (tO RX X.K W (evB C call hi))) :
    Snd RX X W (.Subscript ea (.Slice l h none p2) p) (evE C call (.slc a lo hi)) := by
  refine both ((pe_slice (sl_all (RX := RX)) ha.1 hl hh).imp fun σ H Q hq => ?_) (by intro _; rfl)
  obtain ⟨ρ, μ, S, t, r, h⟩ := hq
  rw [evE] at h
  refine seqE .refl t r h fun x S1 H1 μ1 v st1 s1 t1 r1 hx h1 => seqO st1 t1 r1 h1 fun y S2 H2 μ2 st2 s2 t2 r2 h2 => seqO st2 t2 r2 h2 fun z S3 H3 μ3 st3 s3 t3 r3 h3 => ?_
  exact ⟨_, H, μ, μ3, S3, x, st3, t3, (hx.step s2).step s3, h3⟩
theorem sRev {a : E} {ea : Expr} {k : Nat} {p p1 p2 p3 : Pos} (ha : Snd RX X W ea (evE C call a)) : Snd RX X W (.Subscript ea (.Slice none none (some (.UnaryOp .USub (.Constant (.int 1) k p1) p2)) p3) p) (evE C call (.rev a)) := by
  refine both ((pe_revT ha.1).imp fun σ H Q hq => ?_) (by intro _; rfl)
  obtain ⟨ρ, μ, S, t, r, h⟩ := hq
  rw [evE] at h
  refine seqE .refl t r h fun x S1 H1 μ1 v st1 s1 t1 r1 hx h1 => ?_
  unfold getRev at h1
  split at h1
  · rename_i ds e
    obtain ⟨ea, q, vs, e1, h2, h3⟩ := seq_tup t1 hx e
    exact ⟨q, vs, e1, .inl ⟨h2, fun p hp => h1 _ μ1 (st1.new hp) (t1.new hp) _ (new_tup h3.rev hp)⟩⟩
  · rename_i ds e
    obtain ⟨q, vs, e1, h2, h3⟩ := seq_lst t1 hx e
    exact ⟨q, vs, e1, .inr ⟨SqL.of h2, fun p hp => h1 _ μ1 (st1.new hp) (t1.new hp) _ (new_lst st1 t1 h3.rev hp)⟩⟩
  · exact h1.elim
theorem Bi1.mem (b : Bi1) : b.nm ∈ bnames := by cases b <;> decide +kernel
theorem Bi2.mem (b : Bi2) : b.nm ∈ bnames := by cases b <;> decide +kernel
theorem Ty.mem (b : Ty) : b.nm ∈ bnames := by cases b <;> decide +kernel
theorem pe_bi1 (st : Site RX C call m X W) (b : Bi1) {r : List L2.V → Hp → VK → Prop} (hc : CallR X b.val r) (hg : isG m b.nm = true) {e : Expr} {t : TA} {p pos : Pos} (ha : PA X [e] t) (he : starEach [e] X.env = (false, eval e X.env) :: starEach [] X.env) : PE X (.Call (.Name b.nm p) [e] [] pos) (tCB r t) := by
  obtain ⟨g1, g2, g3⟩ := st.g hg
  have hm := st.b b.mem
  cases b with
  | len => exact pe_callB hc g1 hm (by decide +kernel) ha g3 g2 he rfl
  | abs => exact pe_callB hc g1 hm (by decide +kernel) ha g3 g2 he rfl
  | all => exact pe_callB hc g1 hm (by decide +kernel) ha g3 g2 he rfl
  | any => exact pe_callB hc g1 hm (by decide +kernel) ha g3 g2 he rfl
  | repr => exact pe_callB hc g1 hm (by decide +kernel) ha g3 g2 he rfl
  | int => exact pe_callTy hc g1 hm (by decide +kernel) ha g3 g2 he rfl
  | bool => exact pe_callTy hc g1 hm (by decide +kernel) ha g3 g2 he rfl
  | tuple => exact pe_callTy hc g1 hm (by decide +kernel) ha g3 g2 he rfl
  | list => exact pe_callTy hc g1 hm (by decide +kernel) ha g3 g2 he rfl
theorem sBi1 (st : Site RX C call m X W) (b : Bi1) {a : E} {ps : PL} {p pos : Pos} (hg : isG m b.nm = true) (ha : Snd RX X W (pE m a ps).1 (evE C call a)) : Snd RX X W (.Call (.Name b.nm p) [(pE m a ps).1] [] pos) (evE C call (.bi1 b a)) := by
  refine both ((pe_bi1 st b (call_bi1 (RX := RX) st.calm b) hg (pa_cons ha.1 pa_nil (star_cons _ m a ps [])) (star_cons _ m a ps [])).imp fun σ H Q hq => ?_) (by intro _; rfl)
  obtain ⟨ρ, μ, S, t, r, h⟩ := hq
  rw [evE] at h
  exact seqE .refl t r h fun x S1 H1 μ1 v st1 s1 t1 r1 hx h1 => ⟨_, H, μ, μ1, S1, x, v, rfl, st1, t1, hx, h1⟩
theorem pe_bi2 (st : Site RX C call m X W) (b : Bi2) {r : List L2.V → Hp → VK → Prop} (hc : CallR X b.val r) (hg : isG m b.nm = true) {e e2 : Expr} {t : TA} {p pos : Pos} (ha : PA X [e, e2] t) (he : starEach [e, e2] X.env = (false, eval e X.env) :: starEach [e2] X.env) (hp : (backTo pos (starEach [e2] X.env)).any (·.1) = false) : PE X (.Call (.Name b.nm p) [e, e2] [] pos) (tCB r t) := by
  obtain ⟨g1, g2, g3⟩ := st.g hg
  have hm := st.b b.mem
  cases b with
  | min => exact pe_callB hc g1 hm (by decide +kernel) ha g3 g2 he hp
  | max => exact pe_callB hc g1 hm (by decide +kernel) ha g3 g2 he hp
  | divmod => exact pe_callB hc g1 hm (by decide +kernel) ha g3 g2 he hp
theorem star_one (env : PySem.Env) (pos : Pos) (e : E) (ps : PL) : (backTo pos (starEach [(pE m e ps).1] env)).any (·.1) = false := by
  rw [star_cons]
  rfl
theorem sBi2 (st : Site RX C call m X W) (b : Bi2) {a c : E} {ps qs : PL} {p pos : Pos} (hg : isG m b.nm = true) (ha : Snd RX X W (pE m a ps).1 (evE C call a)) (hc : Snd RX X W (pE m c qs).1 (evE C call c)) : Snd RX X W (.Call (.Name b.nm p) [(pE m a ps).1, (pE m c qs).1] [] pos) (evE C call (.bi2 b a c)) := by
  refine both ((pe_bi2 st b (call_bi2 (RX := RX) st.calm b) hg (pa_cons ha.1 (pa_cons hc.1 pa_nil (star_cons _ m c qs [])) (star_cons _ m a ps _)) (star_cons _ m a ps _) (star_one _ _ c qs)).imp fun σ H Q hq => ?_) (by intro _; rfl)
  obtain ⟨ρ, μ, S, t, r, h⟩ := hq
  rw [evE] at h
  exact seqE .refl t r h fun x S1 H1 μ1 v st1 s1 t1 r1 hx h1 => seqE st1 t1 r1 h1 fun y S2 H2 μ2 u st2 s2 t2 r2 hy h2 => ⟨_, H, μ, μ2, S2, x, y, v, u, rfl, st2, t2, hx.step s2, hy.base st1.live, h2⟩
/-- a type's name -/
theorem pe_ty (st : Site RX C call m X W) (T : Ty) {p : Pos} (hg : isG m T.nm = true) : PE X (.Name T.nm p) (tC T.v) := by
  obtain ⟨g1, g2, g3⟩ := st.g hg
  exact ⟨fun pins s σ H Q I h => ld_blt I g1 (st.b T.mem) T.boot ⟨T.v, H, I, T.rel, h⟩ g3 g2⟩
theorem sIsi (st : Site RX C call m X W) {a : E} {T : Ty} {ps : PL} {p p2 pos : Pos} (hg : isG m "isinstance" = true) (hT : isG m T.nm = true) (ha : Snd RX X W (pE m a ps).1 (evE C call a)) : Snd RX X W (.Call (.Name "isinstance" p) [(pE m a ps).1, .Name T.nm p2] [] pos) (evE C call (.isi a T)) := by
  obtain ⟨g1, g2, g3⟩ := st.g hg
  refine both ((pe_callB call_isi g1 (st.b (by decide +kernel)) (by decide +kernel) (pa_cons ha.1 (pa_cons (pe_ty st T hT) pa_nil rfl) (star_cons _ m a ps _)) g3 g2 (star_cons _ m a ps _) rfl).imp fun σ H Q hq => ?_) (by intro _; rfl)
  obtain ⟨ρ, μ, S, t, r, h⟩ := hq
  rw [evE] at h
  refine seqE .refl t r h fun x S1 H1 μ1 v st1 s1 t1 r1 hx h1 => ?_
  obtain ⟨b, eb, h2⟩ := h1.opt
  obtain ⟨ty, k1, k2⟩ := tyx_of t1 hx ⟨T, b, eb⟩
  exact ⟨v, T.v, ty, T.val, b, rfl, T.cls, k1, k2 _ _ eb, h2 H1 μ1 st1 t1 _ (.bl _)⟩
end
end Q
end
section
-- Snd11
set_option Elab.async false
set_option linter.all false
set_option maxRecDepth 100000
set_option maxHeartbeats 4000000
namespace Q
open PySem PySem.Spec PyProof.Rows L2

section
variable {RX : RXT} {C : Ctx} {call : Nat → List D → Store → Res R} {m : Nm} {X : Cx} {W : WX}
theorem paired_ty : ∀ ts : List Ty, PySem.Paired ClsV (ts.map Ty.v) (ts.map Ty.val)
  | [] => .nil
  | t :: r => .cons t.cls (paired_ty r)
theorem kitAny_of {K : PySem.W.Frag} {ty : Value} {S : Store} {a : R} (k : ∀ t b, tyIs S a t = some b → PySem.W.kitOne K ty t.val = some b) : ∀ (ts : List Ty) bs, ts.mapM (tyIs S a) = some bs → PySem.W.kitAny K ty (ts.map Ty.val) = some (bs.any id)
  | [], bs, e => by
    cases e
    rfl
  | t :: r, bs, e => by
    rw [List.mapM_cons] at e
    cases e1 : tyIs S a t with
    | none => rw [e1] at e; cases e
    | some b =>
      rw [e1] at e
      cases e2 : r.mapM (tyIs S a) with
      | none => rw [e2] at e; cases e
      | some cs =>
        rw [e2] at e
        cases e
        rw [List.map_cons]
        unfold PySem.W.kitAny
        rw [k t b e1]
        cases b with
        | true => rfl
        | false => exact (kitAny_of k r cs e2).trans (by rw [List.any_cons]; rfl)
theorem pa_tys (st : Site RX C call m X W) : ∀ (ts : List Ty) (ps : PL), ts.all (fun t => isG m t.nm) = true → PA X (tyExprs ts ps) fun σ H Q => Q (ts.map Ty.v) H
  | [], ps, _ => pa_nil
  | t :: r, ps, h => by
    rw [List.all_cons, Bool.and_eq_true] at h
    exact pa_cons (pe_ty st t h.1) (pa_tys st r ps.tail h.2) rfl
theorem sIsiT (st : Site RX C call m X W) {a : E} {ts : List Ty} {ps qs : PL} {k : Nat} {p p2 pos : Pos} (hg : isG m "isinstance" = true) (hT : ts.all (fun t => isG m t.nm) = true) (hne : (!ts.isEmpty) = true) (hz : ts.length ≤ 5000) (ha : Snd RX X W (pE m a ps).1 (evE C call a)) : Snd RX X W (.Call (.Name "isinstance" p) [(pE m a ps).1, .Tuple (tyExprs ts qs) k p2] [] pos) (evE C call (.isiT a ts)) := by
  obtain ⟨g1, g2, g3⟩ := st.g hg
  refine both ((pe_callB call_isiT g1 (st.b (by decide +kernel)) (by decide +kernel) (pa_cons ha.1 (pa_cons (pe_tup (pa_tys st ts qs hT)) pa_nil rfl) (star_cons _ m a ps _)) g3 g2 (star_cons _ m a ps _) rfl).imp fun σ H Q hq => ?_) (by intro _; rfl)
  obtain ⟨ρ, μ, S, t, r, h⟩ := hq
  rw [evE] at h
  refine seqE .refl t r h fun x S1 H1 μ1 v st1 s1 t1 r1 hx h1 => ?_
  obtain ⟨bs, eb, h2⟩ := h1.opt
  refine ⟨by rw [List.length_map, sizeLine_eq]; omega, fun tp htp => ?_⟩
  have hx2 : RR X.K H (upd H1 tp (.tup (ts.map Ty.v))) μ1 x v := hx.step (StepD.grow (grow_upd htp))
  have t2 := t1.new (o := .tup (ts.map Ty.v)) htp
  cases ts with
  | nil => cases hne
  | cons t0 r0 =>
    have hty : ∃ b, tyIs S1 x t0 = some b := by
      rw [List.mapM_cons] at eb
      cases e1 : tyIs S1 x t0 with
      | none => rw [e1] at eb; cases eb
      | some b => exact ⟨b, rfl⟩
    obtain ⟨b1, e1⟩ := hty
    obtain ⟨ty, k1, k2⟩ := tyx_of t2 hx2 ⟨_, _, e1⟩
    exact ⟨v, tp, _, ty, _, _, rfl, upd_same, paired_ty _, k1, kitAny_of k2 _ _ eb, h2 _ μ1 (st1.new htp) t2 _ (.bl _)⟩
theorem sMet (st : Site RX C call m X W) {o a : E} {ps qs : PL} {p pos : Pos} (hb : notCall o = true) (ho : Snd RX X W (pE m o ps).1 (evE C call o)) (ha : Snd RX X W (pE m a qs).1 (evE C call a)) :
    Snd RX X W (.Call (.Attribute (pE m o ps).1 Mth.append.nm { p with endLine := pos.line }) [(pE m a qs).1] [] pos) (evE C call (.met .append o a)) := by
  have e1 : attributeBase (pE m o ps).1 Mth.append.nm X.env (eval (pE m o ps).1 X.env) = eval (pE m o ps).1 X.env := by
    cases o <;> first | rfl | cases hb
  refine both ((pe_bm (T := "list") (id := "list.append") PySem.F.plainAttrs_list PySem.F.slot_list_append PySem.F.type_list_append mt_append ho.1 (pa_cons ha.1 pa_nil (star_cons _ m a qs [])) e1 ?_ (beq_self_eq_true _) (star_cons _ m a qs []) rfl).imp fun σ H Q hq => ?_) (by intro _; rfl)
  · rw [star_cons]
    rfl
  · obtain ⟨ρ, μ, S, t, r, h⟩ := hq
    rw [evE] at h
    refine seqE .refl t r h fun x S1 H1 μ1 v st1 s1 t1 r1 hx h1 => ?_
    split at h1
    · rename_i n
      split at h1
      · rename_i ds0 e0
        cases (show RD X.K H1 μ1 (.ref n) v from hx) with
        | @ref _ p' hm =>
          obtain ⟨o0, f0, vs0, f1, f2⟩ := t1.cell n _ _ e0 hm
          subst f1
          refine ⟨.inl ⟨rfl, vs0, SqL.of f0⟩, seqE st1 t1 r1 h1 fun y S2 H2 μ2 u st2 s2 t2 r2 hy h2 => ?_⟩
          obtain ⟨d, S3, μ3, st3, t3, rd, hix, hmem, h3⟩ := Out.settle st2 t2 hy st1.live h2
          have hm3 := hix n _ (s2.ix hm)
          unfold evMet at h3
          dsimp only at h3
          split at h3
          · rename_i ds e3
            split at h3
            · rename_i hz
              obtain ⟨o1, g0, vs1, g1, g2⟩ := t3.cell n _ _ e3 hm3
              subst g1
              have nt := imm_lst g0
              obtain ⟨w1, w2⟩ := t3.write (c := .lst (ds ++ [d])) (o := .lst (vs1 ++ [u])) hm3 ⟨_, rfl, g2.append (.cons rd .nil)⟩ nt
              refine ⟨p', vs1, u, rfl, rfl, g0, ?_, h3 _ _ (st3.trans w2) w1 _ .non⟩
              have := Nat.blt_eq.mp hz
              rw [← g2.length, sizeLine_eq]
              exact this
            · exact h3.elim
          · exact h3.elim
      · exact h1.elim
    · exact h1.elim
theorem sDct0 {p : Pos} : Snd RX X W (.Dict [] [] p) (evE C call .dct0) := by
  refine both (pe_dnewK.imp fun σ H Q hq => ?_) (by intro _; rfl)
  obtain ⟨ρ, μ, S, t, r, h⟩ := hq
  rw [evE] at h
  intro p hp
  have np := not_in t hp
  have s1 : Step H μ (upd H p (.dK [])) (μ ++ [p]) := by
    refine StepD.mk' (fun a o e _ => grow_upd hp a o e) (im_grow (grow_upd hp)) (fun a e => ?_) ⟨[p], rfl, fun a ha => ?_⟩
    · by_cases z : a = p
      · rw [z]; exact hp
      · rw [upd_ne z] at e; exact e
    · rw [List.mem_singleton] at ha; rw [ha]; exact hp
  refine h _ (μ ++ [p]) s1 ((t.new hp).alloc (c := .dct []) upd_same np ⟨rfl, rfl⟩) _ (.ref ?_)
  rw [← t.len, List.getElem?_append_right (Nat.le_refl _), Nat.sub_self]
  rfl
theorem sCall (st : Site RX C call m X W) {f : Nat} {es : Es} {p pos : Pos} {ps : PL} (hk : kE m (.call f es) = true) (ha : PA X (pEs m es ps).1 (tA RX X.K W (evEs C call es))) : Snd RX X W (.Call (.Name (fnOf m.fn f) p) (pEs m es ps).1 [] pos) (evE C call (.call f es)) := by
  rw [kE, Bool.and_eq_true, Bool.and_eq_true] at hk
  obtain ⟨⟨h1, h2⟩, h3⟩ := hk
  split at h1
  case h_2 => cases h1
  rename_i x np nd e1
  rw [Bool.and_eq_true, Bool.and_eq_true] at h1
  obtain ⟨⟨h1, h4⟩, h5⟩ := h1
  obtain ⟨g1, g2, g3⟩ := st.g h1
  obtain ⟨F, fa, fd, pps, k, f1, f2, f3, f4, f5, f6, f7, f8⟩ := st.fn f x np nd e1
  obtain ⟨us, dvs, b1, b2, b3⟩ := f8 es.len (Nat.ble_eq.mp h4) (Nat.ble_eq.mp h5)
  have ex : fnOf m.fn f = x := by
    unfold fnOf
    rw [List.getD_eq_getElem?_getD, e1]
    rfl
  rw [ex]
  cases es with
  | nil => cases h3
  | cons e r =>
    have e2 : (pEs m (.cons e r) ps).1 = (pE m e ps).1 :: (pEs m r (pE m e ps).2).1 := by rw [pEs]
    rw [e2] at ha ⊢
    refine both ((pe_callSD f6 f7 g1 f4 f5 b1 b2 (passAt st.tk) ha g2 (star_cons _ m e ps _) (star_plain _ _ m r _)).imp fun σ H Q hq => ?_) (by intro _; rfl)
    obtain ⟨ρ, μ, S, t, r0, h⟩ := hq
    rw [evE] at h
    refine seqA .refl t r0 h fun ds S1 H1 μ1 vs st1 s1 t1 r1 hv e h1 => ?_
    obtain ⟨ds', e3, h6⟩ := h1.opt
    have hl := evEs_len _ ρ S ds S1 e
    unfold fill at e3
    rw [f1] at e3
    dsimp only at e3
    split at e3
    case isFalse => cases e3
    cases e3
    rw [← hl] at b3
    refine ⟨_, μ1, S1, t1, hv.append (b3 H1 μ1), (Out.at st1 h6).imp fun a S2 H2 μ2 s2 t2 h7 v hv2 => h7 v (hv2.base st1.live)⟩
/-- several parts, by and, or -/
theorem bop_bind (o : BoolOp) (e e' : E) (r : Es) (ρ : Env) (S : Store) : tru (evBop C call o (.cons e (.cons e' r)) ρ S) = (tru (evE C call e ρ S)).bind fun k S => match o with
    | .And => if k then tru (evBop C call o (.cons e' r) ρ S) else .ok false S
    | .Or => if k then .ok true S else tru (evBop C call o (.cons e' r) ρ S) := by
  rw [evBop]
  unfold tru
  rw [Res.assoc, Res.assoc]
  congr 1
  funext x S1
  rw [opt_bind, opt_bind]
  cases hx : truth S1 x with
  | none => rfl
  | some k =>
    cases o <;> cases k <;> first | rfl | (show (Q.opt (truth S1 x) _) = _; rw [hx]; rfl)
theorem sBop1 (o : BoolOp) {e : E} {a : Expr} {p : Pos} (ha : Snd RX X W a (evE C call e)) : PE X (.BoolOp o [a] p) (tE RX X.K W (evBop C call o (.cons e .nil))) ∧ PW X (.BoolOp o [a] p) (tT RX X.K W fun ρ S => tru (evBop C call o (.cons e .nil) ρ S)) := by
  have e1 : evBop C call o (.cons e .nil) = evE C call e := by
    funext ρ S
    rw [evBop]
  rw [e1]
  refine ⟨pe_one ha.1, ?_⟩
  cases o with
  | And => exact pw_and1 ha.2
  | Or => exact pw_or1 ha.2
theorem _root_.L2.PW.imp {X : Cx} {e : Expr} {t t' : TT} (h : PW X e t) (f : ∀ σ H Q, t' σ H Q → t σ H Q) : PW X e t' := ⟨fun wh pins s σ H Q I z => h.run wh pins s σ H Q I (f σ H Q z)⟩
theorem sBop2 (o : BoolOp) {e e' : E} {r : Es} {a b : Expr} {rest : List Expr} {p : Pos} (ha : Snd RX X W a (evE C call e)) (hb : PE X (.BoolOp o (b :: rest) p) (tE RX X.K W (evBop C call o (.cons e' r))) ∧ PW X (.BoolOp o (b :: rest) p) (tT RX X.K W fun ρ S => tru (evBop C call o (.cons e' r) ρ S))) :
    PE X (.BoolOp o (a :: b :: rest) p) (tE RX X.K W (evBop C call o (.cons e (.cons e' r)))) ∧ PW X (.BoolOp o (a :: b :: rest) p) (tT RX X.K W fun ρ S => tru (evBop C call o (.cons e (.cons e' r)) ρ S)) := by
  have one : ∀ σ H Q, tE RX X.K W (evBop C call o (.cons e (.cons e' r))) σ H Q → tE RX X.K W (evE C call e) σ H fun x H1 => ∃ k, TruV X.K x H1 k ∧ match o with
      | .And => if k = true then tE RX X.K W (evBop C call o (.cons e' r)) σ H1 Q else Q x H1
      | .Or => if k = true then Q x H1 else tE RX X.K W (evBop C call o (.cons e' r)) σ H1 Q := by
    intro σ H Q hq
    obtain ⟨ρ, μ, S, t, r, h⟩ := hq
    rw [evBop] at h
    refine seqE .refl t r h fun x S1 H1 μ1 v st1 s1 t1 r1 hx h1 => ?_
    obtain ⟨k, ek, h2⟩ := h1.opt
    refine ⟨k, tru_of t1 hx ek, ?_⟩
    cases o <;> cases k
    · exact h2 H1 μ1 st1 t1 v hx
    · exact sameE st1 t1 r1 h2
    · exact sameE st1 t1 r1 h2
    · exact h2 H1 μ1 st1 t1 v hx
  have two : ∀ σ H Q, tT RX X.K W (fun ρ S => tru (evBop C call o (.cons e (.cons e' r)) ρ S)) σ H Q → tT RX X.K W (fun ρ S => tru (evE C call e ρ S)) σ H fun k H1 => match o with
      | .And => if k = true then tT RX X.K W (fun ρ S => tru (evBop C call o (.cons e' r) ρ S)) σ H1 Q else Q false H1
      | .Or => if k = true then Q true H1 else tT RX X.K W (fun ρ S => tru (evBop C call o (.cons e' r) ρ S)) σ H1 Q := by
    intro σ H Q hq
    obtain ⟨ρ, μ, S, t, r, h⟩ := hq
    dsimp only at h
    rw [bop_bind] at h
    refine seqT .refl t r h fun k S1 H1 μ1 st1 s1 t1 r1 h1 => ?_
    cases o <;> cases k
    · exact h1 H1 μ1 st1 t1
    · exact ⟨ρ, μ1, S1, t1, r1, Out.at st1 h1⟩
    · exact ⟨ρ, μ1, S1, t1, r1, Out.at st1 h1⟩
    · exact h1 H1 μ1 st1 t1
  cases o with
  | And => exact ⟨(pe_andT ha.1 hb.1).imp fun σ H Q hq => one σ H Q hq, (pw_and ha.2 hb.2).imp fun σ H Q hq => two σ H Q hq⟩
  | Or => exact ⟨(pe_orT ha.1 hb.1).imp fun σ H Q hq => one σ H Q hq, (pw_or ha.2 hb.2).imp fun σ H Q hq => two σ H Q hq⟩
end
end Q
end
section
-- Snd12
set_option Elab.async false
set_option linter.all false
set_option maxRecDepth 100000
set_option maxHeartbeats 4000000
namespace Q
open PySem PySem.Spec PyProof.Rows L2

section
variable {RX : RXT} {C : Ctx} {call : Nat → List D → Store → Res R} {m : Nm} {X : Cx} {W : WX}
/-! ### targets -/
theorem sNm (st : Site RX C call m X W) {i : Nat} {p : Pos} (h : isA m i = true) : PG X (.Name (nmOf m.N i) p) (tG RX X.K (T.nm i).slots (asT C call (.nm i))) := by
  obtain ⟨h1, h2, h3⟩ := st.a h
  refine (pg_name (i := i) (by rw [st.nN]; exact st.nd) h1 h2 h3).imp fun v σ H Q hq => ?_
  obtain ⟨d, ρ, μ, S, rd, t, r, h⟩ := hq
  rw [asT] at h
  exact h H μ .refl t _ (r.set rd i) (by rw [T.slots]; exact SameS.set i _)
theorem ts_len (m : Nm) : ∀ (ts : Ts) (ps : PL), (pTs m ts ps).1.length = ts.len
  | .nil, ps => by rw [pTs]; rfl
  | .cons t r, ps => by rw [pTs, List.length_cons, ts_len m r]; rfl
theorem sTp (st : Site RX C call m X W) {ts : Ts} {ps : PL} {p : Pos} (h : PGs X (pTs m ts ps).1 (tGs RX X.K ts.slots (asTs C call ts))) : PG X (.Tuple (pTs m ts ps).1 0 p) (tG RX X.K (T.tp ts).slots (asT C call (.tp ts))) := by
  obtain ⟨a1, a2⟩ := asg_len X.env m ts ps
  refine (pg_tup st.calm h a1 a2).imp fun v σ H Q hq => ?_
  obtain ⟨d, ρ, μ, S, rd, t, r, h⟩ := hq
  rw [asT] at h
  obtain ⟨ds, e, h4⟩ := h.opt
  unfold tupOf at e
  split at e
  · rename_i ds'
    split at e
    · rename_i hl
      cases e
      cases rd with
      | @tup a vs _ h1 h2 =>
        refine ⟨a, vs, rfl, h1, ?_, ds, ρ, μ, S, h2, t, r, ?_⟩
        · rw [← h2.length, ts_len]
          exact eq_of_beq hl
        · rw [T.slots] at h4
          exact h4
    · cases e
  · cases e
theorem SameS.weak {σ σ' : L2.St} {l l' : List Nat} (h : SameS σ σ' l) (s : ∀ i ∈ l, i ∈ l') : SameS σ σ' l' := ⟨h.len, fun i hi => h.at_ i fun z => hi (s i z)⟩
theorem seqE0 {K : PySem.W.Frag} {H H0 : Hp} {μ μ0 : List Addr} {S : Store} {ρ : Env} {σ : L2.St} {β : Type} {p : β → Store → Hp → List Addr → Prop} {f : Env → Store → Res R} {g : R → Store → Res β} {Q : VK} (st : Step H0 μ0 H μ) (t : SR K H μ S) (r : RE K H μ ρ σ) (h : Out RX K (fun _ _ _ => False) H0 μ0 ((f ρ S).bind g) p)
    (k : ∀ a S1 H1 μ1 v, Step H0 μ0 H1 μ1 → Step H μ H1 μ1 → SR K H1 μ1 S1 → RE K H1 μ1 ρ σ → RR K H H1 μ1 a v → Out RX K (fun _ _ _ => False) H0 μ0 (g a S1) p → Q v H1) : tE RX K W f σ H Q :=
  ⟨ρ, μ, S, t, r, ((Out.bind st h).impE fun _ _ _ z => z.elim).imp fun a S1 H1 μ1 s1 t1 ⟨st1, _, _, h1⟩ v hv => k a S1 H1 μ1 v st1 s1 t1 (r.step s1) hv h1⟩
theorem sSb {o i : E} {eo : Expr} {ps : PL} {p : Pos} (ho : Snd RX X W eo (evE C call o)) (hi : Snd RX X W (pE m i ps).1 (evE C call i)) : PG X (.Subscript eo (pE m i ps).1 p) (tG RX X.K (T.sb o i).slots (asT C call (.sb o i))) := by
  refine (pg_sub ho.1 hi.1 set_list (by intro v; cases i <;> rfl)).imp fun v σ H Q hq => ?_
  obtain ⟨d, ρ, μ, S, rd, t, r, h⟩ := hq
  rw [asT] at h
  refine seqE0 .refl t r h fun x S1 H1 μ1 ov st1 s1 t1 r1 hx h1 => seqE0 st1 t1 r1 h1 fun y S2 H2 μ2 iv st2 s2 t2 r2 hy h2 => ?_
  split at h2
  · rename_i n k
    split at h2
    · rename_i ds e
      obtain ⟨j, ej, h3⟩ := h2.opt
      cases (show RD X.K H1 μ1 (.ref n) ov from hx) with
      | @ref _ p' hm =>
        have hm2 := s2.ix hm
        have e2 := rd_int hy
        subst e2
        obtain ⟨o1, g0, vs1, g1, g2⟩ := t2.cell n _ _ e hm2
        subst g1
        have nt := imm_lst g0
        obtain ⟨w1, w2⟩ := t2.write (c := .lst (ds.set j d)) (o := .lst (vs1.set j v)) hm2 ⟨_, rfl, RDs.set (rd.step st2) j g2⟩ nt
        refine ⟨p', vs1, k, j, rfl, rfl, g0, ?_, h3 _ _ (st2.trans w2) w1 σ (r2.step w2) .refl⟩
        rw [← g2.length]
        exact ej
    · exact h2.elim
  · exact h2.elim
theorem sTsNil : PGs X [] (tGs RX X.K Ts.nil.slots (asTs C call .nil)) := by
  refine ⟨fun pins s σ H vs us Q I rv hq => pgs_nil.run pins s σ H vs us Q I rv ?_⟩
  obtain ⟨d, ρ, μ, S, rd, t, r, h⟩ := hq
  rw [asTs] at h
  split at h
  · rename_i he
    rw [List.isEmpty_iff] at he
    subst he
    cases rd
    exact ⟨rfl, h H μ .refl t σ r .refl⟩
  · exact h.elim
theorem sTsCons {t : T} {ts : Ts} {ps qs : PL} (h1 : PG X (pT m t ps).1 (tG RX X.K t.slots (asT C call t))) (h2 : PGs X (pTs m ts qs).1 (tGs RX X.K ts.slots (asTs C call ts))) :
    PGs X ((pT m t ps).1 :: (pTs m ts qs).1) (tGs RX X.K (Ts.cons t ts).slots (asTs C call (.cons t ts))) := by
  refine ⟨fun pins s σ H vs us Q I rv hq => (pgs_cons h1 h2 (by rw [asg_each]; rfl)).run pins s σ H vs us Q I rv ?_⟩
  obtain ⟨d, ρ, μ, S, rd, tt, r, h⟩ := hq
  rw [asTs] at h
  obtain ⟨⟨d0, ds0⟩, e, h⟩ := h.opt
  cases d with
  | nil => cases e
  | cons d1 ds1 =>
    cases e
    cases rd with
    | @cons _ v _ vs' r0 r1 =>
      refine ⟨v, vs', rfl, d0, ρ, μ, S, r0, tt, r, (Out.bind .refl h).imp fun ρ1 S1 H1 μ1 s1 t1 ⟨st1, _, _, h1⟩ σ1 re1 ss1 => ?_⟩
      refine ⟨ds0, ρ1, μ1, S1, r1.step s1, t1, re1, (Out.at st1 h1).imp fun ρ2 S2 H2 μ2 s2 t2 h2 σ2 re2 ss2 => h2 σ2 re2 ?_⟩
      rw [Ts.slots]
      exact ss1.trans ss2

/-! ### what is walked -/
def iSeq (K : PySem.W.Frag) (tl : TE) : TI := fun σ H R => tl σ H fun x H1 => ∃ a, x = .ref a ∧ (((∃ xs, SqL K H1 a xs) ∧ R (Itl K a) H1) ∨ ((∃ xs, SqT K H1 a xs) ∧ R (Itt K a) H1))
theorem pi_seq {tg l : Expr} {tl : TE} (hl : PE X l tl) : PI X tg l (iSeq X.K tl) := by
  refine ⟨fun pins s σ H R I h => ?_⟩
  refine thn (hl.run pins s σ H _ I h) fun v t1 ⟨x, G1, J1, y1, z1⟩ => ?_
  obtain ⟨a, e, z1⟩ := z1
  subst e
  cases y1
  rcases z1 with ⟨⟨ys, hy2⟩, q⟩ | ⟨⟨ys, hy2⟩, q⟩
  · obtain ⟨cs, rw2, p, hz2⟩ := J1.list hy2
    refine wpAny_pyIter_list p.isList ?_
    refine ⟨t1.heap.objs.size, [t1.heap.objs.size], _, _, G1, rfl, J1.kept (t' := t1.toks) fun b o e => Heap.get?_push_of_some _ e, turn_list a _, ⟨_, Heap.get?_push_size _ rfl, rfl, rfl⟩, fun b hb => ?_, q⟩
    have e : b = t1.heap.objs.size := by simpa using hb
    subst e
    exact J1.fpOk (Nat.le_refl _) (J1.hok.fresh (Nat.le_refl _))
  · obtain ⟨cs, rw2, p, hz2⟩ := J1.tuple hy2
    refine wpAny_pyIter_tuple (show t1.heap.IsTuple a cs.toArray from p) ?_
    refine ⟨t1.heap.objs.size, [t1.heap.objs.size], _, _, G1, rfl, J1.kept (t' := t1.toks) fun b o e => Heap.get?_push_of_some _ e, turn_tuple a _, ⟨_, Heap.get?_push_size _ rfl, rfl, rfl⟩, fun b hb => ?_, q⟩
    have e : b = t1.heap.objs.size := by simpa using hb
    subst e
    exact J1.fpOk (Nat.le_refl _) (J1.hok.fresh (Nat.le_refl _))
theorem iSeqI {tg : Expr} {e : E} {l : Expr} (hl : PE X l (tE RX X.K W (evE C call e))) : PI X tg l (iI RX X.K W (evI C call (.seq e))) := by
  refine (pi_seq hl).lens.imp fun σ H R hq => ?_
  obtain ⟨ρ, μ, S, t, r, h⟩ := hq
  rw [evI] at h
  refine seqE .refl t r h fun x S1 H1 μ1 v st1 s1 t1 r1 hx h1 => ?_
  obtain ⟨I, eI, h2⟩ := h1.opt
  cases x with
  | t ds =>
    cases eI
    obtain ⟨a, vs, e1, h0, g1, g2, g3⟩ := hx
    refine ⟨a, e1, .inl ⟨⟨vs, SqL.of g1⟩, fun ln => h2 H1 μ1 st1 t1 ln _ ⟨?_, _, wk_lst, fun D hD => ⟨g1, g2, fun z => ?_, g3⟩⟩⟩⟩
    · rw [g3.length]
      exact ln.lst _ _ g1
    · rw [hD a z.symm] at g1
      cases g1
  | v d =>
    unfold iterOf at eI
    dsimp only at eI
    split at eI
    · rename_i ds
      cases eI
      cases (show RD X.K H1 μ1 (.tup ds) v from hx) with
      | @tup a vs _ g1 g2 =>
        refine ⟨a, rfl, .inr ⟨⟨vs, g1⟩, fun ln => h2 H1 μ1 st1 t1 ln _ ⟨?_, _, wk_tup, fun D hD => ⟨g1, g2⟩⟩⟩⟩
        rw [g2.length]
        exact ln.tup _ _ g1
    · rename_i n
      split at eI
      · rename_i ds e
        cases eI
        cases (show RD X.K H1 μ1 (.ref n) v from hx) with
        | @ref _ a hm =>
          obtain ⟨o1, g0, vs1, g1, g2⟩ := t1.cell n _ _ e hm
          subst g1
          exact ⟨a, rfl, .inl ⟨⟨vs1, SqL.of g0⟩, fun ln => h2 H1 μ1 st1 t1 ln _ ⟨a, hm, rfl⟩⟩⟩
      · cases eI
    · cases eI
theorem rng_le {i : Int} (h : rngOk i = true) : -16777216 ≤ i ∧ i ≤ 16777216 := by
  unfold rngOk at h
  rw [Bool.and_eq_true] at h
  exact ⟨of_decide_eq_true h.1, of_decide_eq_true h.2⟩
theorem iRng1I (st : Site RX C call m X W) {tg : Expr} {a : E} {ps : PL} {p pos : Pos} (hg : isG m "range" = true) (ha : PE X (pE m a ps).1 (tE RX X.K W (evE C call a))) : PI X tg (.Call (.Name "range" p) [(pE m a ps).1] [] pos) (iI RX X.K W (evI C call (.rng1 a))) := by
  obtain ⟨g1, g2, g3⟩ := st.g hg
  refine (pi_range1 g1 (st.b (by decide +kernel)) (pa_cons ha pa_nil (star_cons _ m a ps [])) (star_cons _ m a ps [])).lens.imp fun σ H R hq => ?_
  obtain ⟨ρ, μ, S, t, r, h⟩ := hq
  rw [evI] at h
  refine seqE .refl t r h fun x S1 H1 μ1 v st1 s1 t1 r1 hx h1 => ?_
  split at h1
  · rename_i i
    split at h1
    · rename_i hr
      have e := rd_int hx
      subst e
      obtain ⟨b1, b2⟩ := rng_le hr
      refine ⟨i, rfl, by omega, by omega, fun ln => h1 H1 μ1 st1 t1 ln _ ⟨?_, fun _ _ _ => True, ?_, fun D hD => trivial⟩⟩
      · rw [range_len, sizeLine_eq]
        omega
      · have := wk_range (K := X.K) (i := 0) (j := i)
        rw [Int.sub_zero] at this
        exact this
    · exact h1.elim
  · exact h1.elim
theorem iRng2I (st : Site RX C call m X W) {tg : Expr} {a c : E} {ps qs : PL} {p pos : Pos} (hg : isG m "range" = true) (ha : PE X (pE m a ps).1 (tE RX X.K W (evE C call a))) (hc : PE X (pE m c qs).1 (tE RX X.K W (evE C call c))) : PI X tg (.Call (.Name "range" p) [(pE m a ps).1, (pE m c qs).1] [] pos) (iI RX X.K W (evI C call (.rng2 a c))) := by
  obtain ⟨g1, g2, g3⟩ := st.g hg
  refine (pi_range2 g1 (st.b (by decide +kernel)) (pa_cons ha (pa_cons hc pa_nil (star_cons _ m c qs [])) (star_cons _ m a ps _)) (by rw [star_cons, star_cons]; rfl) (star_cons _ m c qs [])).lens.imp fun σ H R hq => ?_
  obtain ⟨ρ, μ, S, t, r, h⟩ := hq
  rw [evI] at h
  refine seqE .refl t r h fun x S1 H1 μ1 v st1 s1 t1 r1 hx h1 => seqE st1 t1 r1 h1 fun y S2 H2 μ2 u st2 s2 t2 r2 hy h2 => ?_
  split at h2
  · rename_i i j
    split at h2
    · rename_i hr
      rw [Bool.and_eq_true, Bool.and_eq_true] at hr
      have e := rd_int hx
      have e' := rd_int hy
      subst e e'
      obtain ⟨b1, b2⟩ := rng_le hr.1.1
      obtain ⟨b3, b4⟩ := rng_le hr.1.2
      have b5 := of_decide_eq_true hr.2
      refine ⟨i, j, rfl, ⟨by omega, by omega, by omega, by omega⟩, fun ln => h2 H2 μ2 st2 t2 ln _ ⟨?_, fun _ _ _ => True, wk_range, fun D hD => trivial⟩⟩
      rw [range_len, sizeLine_eq]
      omega
    · exact h2.elim
  · exact h2.elim
theorem iZipI (st : Site RX C call m X W) {elts : List Expr} {kk : Nat} {tpos : Pos} {a c : E} {ps qs : PL} {p pos : Pos} (hg : isG m "zip" = true) (ha : PE X (pE m a ps).1 (tE RX X.K W (evE C call a))) (hc : PE X (pE m c qs).1 (tE RX X.K W (evE C call c))) : PI X (.Tuple elts kk tpos) (.Call (.Name "zip" p) [(pE m a ps).1, (pE m c qs).1] [] pos) (iI RX X.K W (evI C call (.zip a c))) := by
  obtain ⟨g1, g2, g3⟩ := st.g hg
  refine (RZ.pi_zipA g1 (st.b (by decide +kernel)) (pa_cons ha (pa_cons hc pa_nil (star_cons _ m c qs [])) (star_cons _ m a ps _)) (star_cons _ m a ps _) (star_one _ _ c qs)).lens.imp fun σ H R hq => ?_
  obtain ⟨ρ, μ, S, t, r, h⟩ := hq
  rw [evI] at h
  refine seqE .refl t r h fun x S1 H1 μ1 v st1 s1 t1 r1 hx h1 => seqE st1 t1 r1 h1 fun y S2 H2 μ2 u st2 s2 t2 r2 hy h2 => ?_
  obtain ⟨ds, eI, h3⟩ := h2.opt
  unfold zipped at eI
  split at eI
  · rename_i x1 y1
    cases eI
    have hx2 : RD X.K H2 μ2 (.tup x1) v := (hx.step s2 : RR X.K H H2 μ2 (.v (.tup x1)) v)
    cases hx2 with
    | @tup a1 vs1 _ k1 k2 =>
      cases (show RD X.K H2 μ2 (.tup y1) u from hy) with
      | @tup a2 vs2 _ k3 k4 =>
        refine ⟨a1, a2, vs1, vs2, rfl, .inr ⟨k1, k3, fun ln => h3 H2 μ2 st2 t2 ln _ ⟨?_, _, wk_zip, fun D hD => ⟨⟨k1, k3⟩, k2, k4⟩⟩⟩⟩
        rw [List.length_map, List.length_zip, k2.length]
        exact Nat.le_trans (Nat.min_le_left _ _) (ln.tup _ _ k1)
  · cases eI
theorem iEnumI (st : Site RX C call m X W) {elts : List Expr} {kk : Nat} {tpos : Pos} {a : E} {ps : PL} {p pos : Pos} (hg : isG m "enumerate" = true) (ha : PE X (pE m a ps).1 (tE RX X.K W (evE C call a))) : PI X (.Tuple elts kk tpos) (.Call (.Name "enumerate" p) [(pE m a ps).1] [] pos) (iI RX X.K W (evI C call (.enum a))) := by
  obtain ⟨g1, g2, g3⟩ := st.g hg
  refine (pi_enumA g1 (st.b (by decide +kernel)) (pa_cons ha pa_nil (star_cons _ m a ps [])) (star_cons _ m a ps [])).lens.imp fun σ H R hq => ?_
  obtain ⟨ρ, μ, S, t, r, h⟩ := hq
  rw [evI] at h
  refine seqE .refl t r h fun x S1 H1 μ1 v st1 s1 t1 r1 hx h1 => ?_
  obtain ⟨ds, eI, h3⟩ := h1.opt
  unfold enumd at eI
  split at eI
  · rename_i x1
    cases eI
    cases (show RD X.K H1 μ1 (.tup x1) v from hx) with
    | @tup a1 vs1 _ k1 k2 =>
      refine ⟨a1, vs1, rfl, k1, fun ln => h3 H1 μ1 st1 t1 ln _ ⟨?_, _, wk_enum, fun D hD => ⟨k1, k2⟩⟩⟩
      rw [List.length_map, List.length_zipIdx, k2.length]
      exact ln.tup _ _ k1
  · cases eI
end
end Q
end
section
-- Snd13
set_option Elab.async false
set_option linter.all false
set_option maxRecDepth 100000
set_option maxHeartbeats 4000000
namespace Q
open PySem PySem.Spec PyProof.Rows L2

section
variable {K : PySem.W.Frag} {H : Hp} {μ : List Addr} {S : Store}
theorem StepD.put {D : Addr} {vs ws : List L2.V} (h : H D = some (.lst vs)) : StepD (some D) H μ (upd H D (.lst ws)) μ := by
  refine ⟨fun a o e _ n => ?_, im_upd (imm_lst h), fun a e => ?_, [], by simp, by simp⟩
  · rw [upd_ne (fun z => n (by rw [z]))]; exact e
  · by_cases z : a = D
    · rw [z, upd_same] at e; cases e
    · rw [upd_ne z] at e; exact e
theorem SR.put (t : SR K H μ S) {D : Addr} {vs ws : List L2.V} (h : H D = some (.lst vs)) (n : D ∉ μ) : SR K (upd H D (.lst ws)) μ S :=
  ⟨t.len, t.nd, fun k c a e1 e2 => by
    obtain ⟨o, h1, h2⟩ := t.cell k c a e1 e2
    have ne : a ≠ D := fun z => n (by rw [← z]; exact List.mem_of_getElem? e2)
    exact ⟨o, by rw [upd_ne ne]; exact h1, h2.mono (StepD.put (μ := μ) h).tups fun _ _ z => z⟩⟩
/-- a list that nobody holds comes into the store; the ways from ahead -/
theorem settle2 {RX : RXT} {E : XK} {β : Type} {H0 : Hp} {μ0 : List Addr} {Hb : Hp} {r : R} {v : L2.V} {g : D → Store → Res β} {p : β → Store → Hp → List Addr → Prop} (t : SR K H μ S) (hr : RR K Hb H μ r v) (h : Out RX K E H0 μ0 (Q.settle r S g) p) :
    ∃ d S' μ', (∀ Dx H0' μ0', StepD Dx H0' μ0' H μ → (∀ a, Hb a = none → H0' a = none) → StepD Dx H0' μ0' H μ') ∧ SR K H μ' S' ∧ RD K H μ' d v ∧ (∀ (n : Nat) a, μ[n]? = some a → μ'[n]? = some a) ∧ (∀ b ∈ μ', b ∈ μ ∨ Hb b = none) ∧ Out RX K E H0 μ0 (g d S') p := by
  cases r with
  | v d => exact ⟨d, S, μ, fun _ _ _ z _ => z, t, hr, fun _ _ z => z, fun _ z => .inl z, h⟩
  | t ds =>
    obtain ⟨a, vs, e, h0, h1, h2, h3⟩ := hr
    subst e
    have mono : ∀ (n : Nat) b, μ[n]? = some b → (μ ++ [a])[n]? = some b := fun n b z => by
      rw [List.getElem?_append_left (List.getElem?_eq_some_iff.mp z).1]; exact z
    refine ⟨_, _, μ ++ [a], fun Dx H0' μ0' st hb => ?_, t.alloc (c := .lst ds) h1 h2 ⟨vs, rfl, h3⟩, .ref ?_, mono, fun b z => ?_, h⟩
    · obtain ⟨ν, e, hν⟩ := st.pre
      refine ⟨st.keepD, st.tups, st.live, ν ++ [a], by rw [e, List.append_assoc], fun b hb' => ?_⟩
      rcases List.mem_append.mp hb' with z | z
      · exact hν b z
      · rw [List.mem_singleton] at z; subst z; exact hb _ h0
    · rw [← t.len, List.getElem?_append_right (Nat.le_refl _), Nat.sub_self]; rfl
    · rcases List.mem_append.mp z with z | z
      · exact .inl z
      · rw [List.mem_singleton] at z; subst z; exact .inr h0
end
section
variable {RX : RXT} {C : Ctx} {call : Nat → List D → Store → Res R} {m : Nm} {X : Cx} {W : WX}
theorem Site.blk (st : Site RX C call m X W) (sc : Scope) (s : Shared) (H : Hp) (Ce : Addr) (cl : List (Str × Addr)) (fp : List Addr) : Site RX C call (m.in sc) (X.blk s H sc (compEnvC sc cl Ce X.env) fp) fun _ _ _ _ => False := by
  refine ⟨?_, st.nN, st.nd, st.calm, fun x h => h, takes0, st.bt, st.gl, st.un, fun f x np nd e => ?_⟩
  · show relS sc X.env.scope = relS sc m.sc
    rw [st.sc]
  · exact st.fn f x np nd e
theorem own_ix (m : Nm) (t : T) : (ownOf m t).map (·.2) = t.slots := by
  unfold ownOf
  rw [List.map_map]
  exact List.map_id _
def stepOf (C : Ctx) (call : Nat → List D → Store → Res R) (elt : E) (tg : T) (c : Eo) (ρ : Env) : D → Store → Res (Option D) := fun d S => (asT C call tg d (Q.wipe ρ tg.slots) S).bind fun ρ S => (evC C call c ρ S).bind fun k S =>
        if k then (evE C call elt ρ S).bind fun y S => Q.settle y S fun d S => .ok (some d) S else .ok none S
theorem sLc_read (st : Site RX C call m X W) {elt : E} {tg : T} {it : It} {c : Eo} {k0 : Nat} (hc : X.calm = X.calm) {σ : L2.St} {H : Hp} {Q : VK} (hq : tE RX X.K W (evE C call (.lc elt tg it c k0)) σ H Q) :
    tLc (iI RX X.K W (evI C call it)) (tG RX X.K tg.slots (asT C call tg)) (tT RX X.K (fun _ _ _ _ => False) (evC C call c)) (tE RX X.K (fun _ _ _ _ => False) (evE C call elt)) ((ownOf m tg).map (·.2)) σ H Q := by
  obtain ⟨ρ, μ, S, t, r, h⟩ := hq
  rw [evE] at h
  rw [own_ix]
  refine ⟨ρ, μ, S, t, r, (Out.bind .refl h).imp fun I S1 H1 μ1 s1 t1 ⟨_, _, _, h1⟩ ln J hJ D hD => ?_⟩
  have h2 : Out RX X.K (fun _ _ _ => False) H μ (over (stepOf C call elt tg c ρ) I S1) fun ds S' H' μ' => Out RX X.K (fun c d H' => W c d σ H') H μ (Res.ok (R.t ds) S') fun r S' H' μ' => ∀ v, RR X.K H H' μ' r v → Q v H' := Out.calm h1
  have hD0 : H D = none := s1.live D hD
  refine lc_snd (W := fun _ _ _ _ => False) s1 t1 (r.step s1) ln hJ hD h2 ?turn ?done
  case done =>
    intro ds S' H' μ' avs st' t' hd' nd' ra h3
    exact h3 H' μ' st' t' _ ⟨D, avs, rfl, hD0, hd', nd', ra⟩
  case turn =>
    intro d x H2 μ2 S2 acc avs q st2 t2 r2 rd hd nd ra hz h3 N hN
    unfold stepOf at h3
    rw [Res.assoc] at h3
    refine ⟨d, _root_.Q.wipe ρ tg.slots, μ2, S2, rd, t2, r2.wipe _, (Out.bind st2 h3).imp fun ρ3 S3 H3 μ3 s3 t3 ⟨st3, _, _, h4⟩ σ3 re3 ss3 => ⟨?_, ?_⟩⟩
    · rw [ss3.wipe, wipe_wipe]
    · rw [Res.assoc] at h4
      refine seqT (W := fun _ _ _ _ => False) st3 t3 re3 h4 fun k S4 H4 μ4 st4 s4 t4 r4 h5 => ?_
      have hd4 : H4 D = some (.lst avs) := (s3.trans s4).keep D _ hd nd
      have nd4 : D ∉ μ4 := (s3.trans s4).notin hd nd
      have s24 := s3.trans s4
      cases k with
      | false => exact hN none H4 μ4 S4 avs st4 s24.weak t4 (r2.step s24) hd4 nd4 (ra.step s24) h5
      | true =>
        have h5 : Out RX X.K (fun _ _ _ => False) H μ (((evE C call elt ρ3 S4).bind fun y S => _root_.Q.settle y S fun d S => .ok (some d) S).bind q) _ := h5
        rw [Res.assoc] at h5
        refine seqE (W := fun _ _ _ _ => False) st4 t4 r4 h5 fun y S5 H5 μ5 v st5 s5 t5 r5 hy h6 => ?_
        rw [settle_bind] at h6
        obtain ⟨d6, S6, μ6, way, t6, rd6, hix, hmem, h7⟩ := settle2 t5 hy h6
        have hd5 : H5 D = some (.lst avs) := s5.keep D _ hd4 nd4
        have nd5 : D ∉ μ5 := s5.notin hd4 nd4
        have nd6 : D ∉ μ6 := fun z => by
          rcases hmem D z with z | z
          · exact nd5 z
          · rw [hd4] at z; cases z
        have s26 : StepD (some D) H2 μ2 H5 μ6 := way _ _ _ (s24.trans s5).weak s24.live
        have st6 : Step H μ H5 μ6 := way _ _ _ st5 st4.live
        have sp : StepD (some D) H5 μ6 (upd H5 D (.lst (avs ++ [v]))) μ6 := StepD.put hd5
        refine ⟨avs, hd5, by rw [← ra.length]; exact hz, hN (some d6) _ μ6 S6 (avs ++ [v]) ((st6.weak.trans sp).drop fun d e => by cases e; exact hD0) (s26.trans sp) (t6.put hd5 nd6) ?_ upd_same nd6 ?_ h7⟩
        · exact r2.step (s26.trans sp)
        · exact ((ra.step s26).append (.cons rd6 .nil)).step sp
theorem sLc (st : Site RX C call m X W) {elt : E} {tg : T} {it : It} {c : Eo} {sc : Scope} {k0 : Nat} {iter te el : Expr} {ifs : List Expr} {p : Pos} (hi : PI X te iter (iI RX X.K W (evI C call it))) (hf : ∀ env x, foldedSetIterable iter env x = pure x) (ok : blkC m.N m.sc sc (ownOf m tg) = true)
    (hg : ∀ X', X'.K = X.K → Site RX C call (m.in sc) X' (fun _ _ _ _ => False) → PG X' te (tG RX X.K tg.slots (asT C call tg)))
    (hc : ∀ X', X'.K = X.K → Site RX C call (m.in sc) X' (fun _ _ _ _ => False) → PTs X' ifs (tT RX X.K (fun _ _ _ _ => False) (evC C call c)))
    (he : ∀ X', X'.K = X.K → Site RX C call (m.in sc) X' (fun _ _ _ _ => False) → PE X' el (tE RX X.K (fun _ _ _ _ => False) (evE C call elt))) :
    Snd RX X W (.ListComp el [⟨te, iter, ifs, 0⟩] sc p) (evE C call (.lc elt tg it c k0)) := by
  refine both ((pe_lc st.calm (by rw [st.nN]; exact st.nd) hi (own := ownOf m tg) (blkOk_by (by rw [st.nN, st.sc]; exact ok)) (fun s H Ce cl fp => hg (X.blk s H sc (compEnvC sc cl Ce X.env) fp) rfl (st.blk sc s H Ce cl fp)) (fun s H Ce cl fp => hc (X.blk s H sc (compEnvC sc cl Ce X.env) fp) rfl (st.blk sc s H Ce cl fp)) (fun s H Ce cl fp => he (X.blk s H sc (compEnvC sc cl Ce X.env) fp) rfl (st.blk sc s H Ce cl fp)) (fun x => hf X.env x)).imp fun σ H Q hq => ?_) (by intro _; rfl)
  exact sLc_read st rfl hq
end
end Q
end
section
-- Snd14
set_option Elab.async false
set_option linter.all false
set_option maxRecDepth 100000
set_option maxHeartbeats 4000000
namespace Q
open PySem PySem.Spec PyProof.Rows L2

section
variable {RX : RXT} {C : Ctx} {call : Nat → List D → Store → Res R}
theorem oNo {X : Cx} {W : WX} : PO X none (tO RX X.K W (evB C call .no)) := po_none.imp fun σ H Q hq => by
  obtain ⟨ρ, μ, S, t, r, h⟩ := hq
  rw [evB] at h
  exact h H μ .refl t
theorem oSo {X : Cx} {W : WX} {e : E} {ee : Expr} (h : PE X ee (tE RX X.K W (evE C call e))) : PO X (some ee) (tO RX X.K W (evB C call (.so e))) := (po_some h).imp fun σ H Q hq => by
  obtain ⟨ρ, μ, S, t, r, h⟩ := hq
  rw [evB] at h
  refine seqE .refl t r h fun x S1 H1 μ1 v st1 s1 t1 r1 hx h1 => ?_
  split at h1
  · have e := rd_int hx
    subst e
    exact ⟨_, rfl, h1 H1 μ1 st1 t1⟩
  · exact h1.elim
theorem cNo {X : Cx} {W : WX} : PTs X [] (tT RX X.K W (evC C call .no)) := pts_nil.imp fun σ H Q hq => by
  obtain ⟨ρ, μ, S, t, r, h⟩ := hq
  rw [evC] at h
  exact h H μ .refl t
theorem cSo {X : Cx} {W : WX} {e : E} {ee : Expr} (h : PT X ee (tT RX X.K W fun ρ S => tru (evE C call e ρ S))) : PTs X [ee] (tT RX X.K W (evC C call (.so e))) := (pts_one h).imp fun σ H Q hq => by
  obtain ⟨ρ, μ, S, t, r, h⟩ := hq
  rw [evC] at h
  exact ⟨ρ, μ, S, t, r, h⟩
theorem and3 {a b c : Bool} (h : (a && b && c) = true) : a = true ∧ b = true ∧ c = true := by
  rw [Bool.and_eq_true, Bool.and_eq_true] at h
  exact ⟨h.1.1, h.1.2, h.2⟩
theorem and2 {a b : Bool} (h : (a && b) = true) : a = true ∧ b = true := by
  rw [Bool.and_eq_true] at h
  exact h
mutual
theorem sE : ∀ (e : E) (m : Nm) (X : Cx) (W : WX) (ps : PL), Site RX C call m X W → kE m e = true → Snd RX X W (pE m e ps).1 (evE C call e)
  | .non, m, X, W, ps, st, h => by
    rw [pE]
    have := sConst (RX := RX) (X := X) (W := W) (d := .non) (e := .Constant .none 0 (hd ps)) pe_non (fun _ _ => .non) (by intro _; rfl)
    have e1 : evE C call .non = fun _ S => .ok (.v .non) S := by funext ρ S; rw [evE]
    rw [e1]
    exact this
  | .bl b, m, X, W, ps, st, h => by
    rw [pE]
    have := sConst (RX := RX) (X := X) (W := W) (d := .bl b) (e := .Constant (.bool b) 0 (hd ps)) pe_bl (fun _ _ => .bl b) (by intro _; rfl)
    have e1 : evE C call (.bl b) = fun _ S => .ok (.v (.bl b)) S := by funext ρ S; rw [evE]
    rw [e1]
    exact this
  | .int i, m, X, W, ps, st, h => by
    rw [pE]
    have := sConst (RX := RX) (X := X) (W := W) (d := .int i) (e := .Constant (.int i) 0 (hd ps)) pe_int (fun _ _ => .int i) (by intro _; rfl)
    have e1 : evE C call (.int i) = fun _ S => .ok (.v (.int i)) S := by funext ρ S; rw [evE]
    rw [e1]
    exact this
  | .str x, m, X, W, ps, st, h => by
    rw [pE]
    have := sConst (RX := RX) (X := X) (W := W) (d := .str x) (e := .Constant (.str x) 0 (hd ps)) pe_str (fun _ _ => .str x) (by intro _; rfl)
    have e1 : evE C call (.str x) = fun _ S => .ok (.v (.str x)) S := by funext ρ S; rw [evE]
    rw [e1]
    exact this
  | .var i, m, X, W, ps, st, h => by
    rw [pE]
    rw [kE] at h
    exact sVar st h
  | .glb j, m, X, W, ps, st, h => by
    rw [pE]
    exact sGlb st h
  | .tup es, m, X, W, ps, st, h => by
    rw [pE]
    rw [kE] at h
    exact sTup (sEs es m X W ps.tail st (and2 h).1).1 (Nat.ble_eq.mp (and2 h).2)
  | .lst es, m, X, W, ps, st, h => by
    rw [pE]
    rw [kE] at h
    exact sLst (sEs es m X W ps.tail st (and2 h).1).1 (Nat.ble_eq.mp (and2 h).2)
  | .bin o a b, m, X, W, ps, st, h => by
    rw [pE]
    rw [kE] at h
    exact sBin (sE a m X W _ st (and2 h).1) (sE b m X W _ st (and2 h).2)
  | .neg a, m, X, W, ps, st, h => by
    rw [pE]
    rw [kE] at h
    exact sNeg (sE a m X W _ st h)
  | .not a, m, X, W, ps, st, h => by
    rw [pE]
    rw [kE] at h
    exact sNot (sE a m X W _ st h)
  | .cmp o a b, m, X, W, ps, st, h => by
    rw [pE]
    rw [kE] at h
    exact sCmp st.un (sE a m X W _ st (and2 h).1) (sE b m X W _ st (and2 h).2) (no_mark o m b _)
  | .chn o o' a b c, m, X, W, ps, st, h => by
    rw [pE]
    rw [kE] at h
    obtain ⟨h1, h2, h3⟩ := and3 h
    exact sChn st.un (sE a m X W _ st h1) (sE b m X W _ st h2) (sE c m X W _ st h3) (no_mark o' m c _)
  | .bop o es, m, X, W, ps, st, h => by
    rw [pE]
    rw [kE] at h
    have e1 : evE C call (.bop o es) = evBop C call o es := by funext ρ S; rw [evE]
    rw [e1]
    obtain ⟨h1, h2⟩ := (sEs es m X W ps.tail st (and2 h).1).2 o (hd ps) (and2 h).2
    exact ⟨h1, h2.pt⟩
  | .ife c a b, m, X, W, ps, st, h => by
    rw [pE]
    rw [kE] at h
    obtain ⟨h1, h2, h3⟩ := and3 h
    exact sIfe (sE c m X W _ st h1) (sE a m X W _ st h2) (sE b m X W _ st h3)
  | .idx a i, m, X, W, ps, st, h => by
    rw [pE]
    rw [kE] at h
    exact sIdx (sE a m X W _ st (and2 h).1) (sE i m X W _ st (and2 h).2)
  | .slc a lo hi, m, X, W, ps, st, h => by
    rw [pE]
    rw [kE] at h
    obtain ⟨h1, h2, h3⟩ := and3 h
    exact sSlc (sE a m X W _ st h1) (sEo lo m X W _ st h2).1 (sEo hi m X W _ st h3).1
  | .rev a, m, X, W, ps, st, h => by
    rw [pE]
    rw [kE] at h
    exact sRev (sE a m X W _ st h)
  | .call f es, m, X, W, ps, st, h => by
    rw [pE]
    have h' := h
    rw [kE] at h'
    exact sCall st h (sEs es m X W _ st (and3 h').2.1).1
  | .bi1 b a, m, X, W, ps, st, h => by
    rw [pE]
    rw [kE] at h
    exact sBi1 st b (and2 h).1 (sE a m X W _ st (and2 h).2)
  | .bi2 b a c, m, X, W, ps, st, h => by
    rw [pE]
    rw [kE] at h
    obtain ⟨h1, h2, h3⟩ := and3 h
    exact sBi2 st b h1 (sE a m X W _ st h2) (sE c m X W _ st h3)
  | .isi a t, m, X, W, ps, st, h => by
    rw [pE]
    rw [kE] at h
    obtain ⟨h1, h2, h3⟩ := and3 h
    exact sIsi st h1 h2 (sE a m X W _ st h3)
  | .isiT a ts, m, X, W, ps, st, h => by
    rw [pE]
    rw [kE] at h
    obtain ⟨h1, h3⟩ := and2 h
    obtain ⟨h1, h4⟩ := and2 h1
    obtain ⟨h1, h5, h6⟩ := and3 h1
    exact sIsiT st h1 h5 h6 (Nat.ble_eq.mp h4) (sE a m X W _ st h3)
  | .met k o a, m, X, W, ps, st, h => by
    rw [pE]
    rw [kE] at h
    obtain ⟨h1, h2, h3⟩ := and3 h
    cases k with
    | append => exact sMet st h1 (sE o m X W _ st h2) (sE a m X W _ st h3)
  | .dct0, m, X, W, ps, st, h => by
    rw [pE]
    exact sDct0
  | .lc elt tg it c k, m, X, W, ps, st, h => by
    rw [pE]
    rw [kE] at h
    obtain ⟨h, k1⟩ := and2 h
    obtain ⟨h, k2⟩ := and2 h
    obtain ⟨h, k3⟩ := and2 h
    obtain ⟨h, k4⟩ := and2 h
    obtain ⟨h, k5⟩ := and2 h
    obtain ⟨k7, k6⟩ := and2 h
    exact sLc st (sI it m X W ps.tail st k7 (m.in (m.scp k)) tg _ k6) (fun env x => no_fold env m it _ x) k4
      (fun X' e st' => e ▸ sT tg (m.in (m.scp k)) X' _ _ st' k3) (fun X' e st' => e ▸ (sEo c (m.in (m.scp k)) X' _ _ st' k2).2) (fun X' e st' => e ▸ (sE elt (m.in (m.scp k)) X' _ _ st' k1).1)
theorem sEs : ∀ (es : Es) (m : Nm) (X : Cx) (W : WX) (ps : PL), Site RX C call m X W → kEs m es = true → PA X (pEs m es ps).1 (tA RX X.K W (evEs C call es)) ∧
    ∀ (o : BoolOp) (p : Pos), Nat.blt 0 es.len = true → PE X (.BoolOp o (pEs m es ps).1 p) (tE RX X.K W (evBop C call o es)) ∧ PW X (.BoolOp o (pEs m es ps).1 p) (tT RX X.K W fun ρ S => tru (evBop C call o es ρ S))
  | .nil, m, X, W, ps, st, h => by
    refine ⟨?_, fun o p z => by cases z⟩
    rw [pEs]
    refine pa_nil.imp fun σ H Q hq => ?_
    obtain ⟨ρ, μ, S, t, r, h⟩ := hq
    rw [evEs] at h
    exact h H μ .refl t _ .nil
  | .cons e r, m, X, W, ps, st, h => by
    rw [kEs] at h
    obtain ⟨h1, h2⟩ := and2 h
    have a1 := sE e m X W ps st h1
    have a2 := sEs r m X W (pE m e ps).2 st h2
    rw [pEs]
    refine ⟨(pa_cons a1.1 a2.1 (star_cons _ m e ps _)).imp fun σ H Q hq => ?_, fun o p _ => ?_⟩
    · obtain ⟨ρ, μ, S, t, r0, h⟩ := hq
      rw [evEs] at h
      refine seqE .refl t r0 h fun x S1 H1 μ1 v st1 s1 t1 r1 hx h1 => ?_
      obtain ⟨d, S2, μ2, way, t2, rd, hix, hmem, h2⟩ := settle2 t1 hx h1
      have st2 : Step H μ H1 μ2 := way _ _ _ st1 fun _ z => z
      have s2 : Step H μ H1 μ2 := way _ _ _ s1 fun _ z => z
      exact seqA st2 t2 (r0.step s2) h2 fun ds S3 H3 μ3 vs st3 s3 t3 r3 hv e h3 => h3 H3 μ3 st3 t3 _ (.cons (rd.step s3) hv)
    · cases r with
      | nil =>
        have e1 : (pEs m .nil (pE m e ps).2).1 = [] := by rw [pEs]
        rw [e1]
        exact sBop1 o a1
      | cons e' r' =>
        have e1 : (pEs m (.cons e' r') (pE m e ps).2).1 = (pE m e' (pE m e ps).2).1 :: (pEs m r' (pE m e' (pE m e ps).2).2).1 := by rw [pEs]
        have a3 := a2.2 o p rfl
        rw [e1] at a3 ⊢
        exact sBop2 o a1 a3
theorem sEo : ∀ (o : Eo) (m : Nm) (X : Cx) (W : WX) (ps : PL), Site RX C call m X W → kEo m o = true → PO X (pEo m o ps).1 (tO RX X.K W (evB C call o)) ∧ PTs X (pEo m o ps).1.toList (tT RX X.K W (evC C call o))
  | .no, m, X, W, ps, st, h => by
    rw [pEo]
    exact ⟨oNo, cNo⟩
  | .so e, m, X, W, ps, st, h => by
    rw [pEo]
    rw [kEo] at h
    have a := sE e m X W ps st h
    exact ⟨oSo a.1, cSo a.2⟩
theorem sT : ∀ (t : T) (m : Nm) (X : Cx) (W : WX) (ps : PL), Site RX C call m X W → kT m t = true → PG X (pT m t ps).1 (tG RX X.K t.slots (asT C call t))
  | .nm i, m, X, W, ps, st, h => by
    rw [pT]
    rw [kT] at h
    exact sNm st h
  | .tp ts, m, X, W, ps, st, h => by
    rw [pT]
    rw [kT] at h
    exact sTp st (sTs ts m X W ps.tail st h)
  | .sb o i, m, X, W, ps, st, h => by
    rw [pT]
    rw [kT] at h
    exact sSb (sE o m X W _ st (and2 h).1) (sE i m X W _ st (and2 h).2)
theorem sTs : ∀ (ts : Ts) (m : Nm) (X : Cx) (W : WX) (ps : PL), Site RX C call m X W → kTs m ts = true → PGs X (pTs m ts ps).1 (tGs RX X.K ts.slots (asTs C call ts))
  | .nil, m, X, W, ps, st, h => by
    rw [pTs]
    exact sTsNil
  | .cons t r, m, X, W, ps, st, h => by
    rw [pTs]
    rw [kTs] at h
    exact sTsCons (sT t m X W ps st (and2 h).1) (sTs r m X W _ st (and2 h).2)
theorem sI : ∀ (it : It) (m : Nm) (X : Cx) (W : WX) (ps : PL), Site RX C call m X W → kI m it = true → ∀ (m' : Nm) (tg : T) (qs : PL), okTI tg it = true → PI X (pT m' tg qs).1 (pI m it ps).1 (iI RX X.K W (evI C call it))
  | .seq e, m, X, W, ps, st, h, m', tg, qs, ok => by
    rw [pI]
    rw [kI] at h
    exact iSeqI (sE e m X W ps st h).1
  | .rng1 a, m, X, W, ps, st, h, m', tg, qs, ok => by
    rw [pI]
    rw [kI] at h
    exact iRng1I st (and2 h).1 (sE a m X W _ st (and2 h).2).1
  | .rng2 a c, m, X, W, ps, st, h, m', tg, qs, ok => by
    rw [pI]
    rw [kI] at h
    obtain ⟨h1, h2, h3⟩ := and3 h
    exact iRng2I st h1 (sE a m X W _ st h2).1 (sE c m X W _ st h3).1
  | .zip a c, m, X, W, ps, st, h, m', tg, qs, ok => by
    rw [pI]
    rw [kI] at h
    obtain ⟨h1, h2, h3⟩ := and3 h
    cases tg with
    | tp ts =>
      rw [pT]
      exact iZipI st h1 (sE a m X W _ st h2).1 (sE c m X W _ st h3).1
    | _ => cases ok
  | .enum a, m, X, W, ps, st, h, m', tg, qs, ok => by
    rw [pI]
    rw [kI] at h
    cases tg with
    | tp ts =>
      rw [pT]
      exact iEnumI st (and2 h).1 (sE a m X W _ st (and2 h).2).1
    | _ => cases ok
end
end
end Q
end
section
-- Snd15
set_option Elab.async false
set_option linter.all false
set_option maxRecDepth 100000
set_option maxHeartbeats 4000000
namespace Q
open PySem PySem.Spec PyProof.Rows L2

/-! ### statements -/
/-- how a pair is stored -/
def Sw (kind : Str → Option NameKind) (ts vs : List Expr) : Option (Option (List Str)) :=
  if !(ts.length == 2 || ts.length == 3) || vs.length != ts.length then some none else
  if vs.any (fun | .Starred .. => true | _ => false) then some none else
  if (ts.filterMap fun | .Name id pos => if kind id == some .local && pos.line == (ts.head?.map (·.pos.line)).getD 0 then some id else none | _ => none).length != ts.length || (ts.filterMap fun | .Name id pos => if kind id == some .local && pos.line == (ts.head?.map (·.pos.line)).getD 0 then some id else none | _ => none).eraseDups.length != (ts.filterMap fun | .Name id pos => if kind id == some .local && pos.line == (ts.head?.map (·.pos.line)).getD 0 then some id else none | _ => none).length then some none else
  if vs.all (foldedForSure 8) then some none else
  if vs.all (constantsAlone 8) then none else
  some (some (ts.filterMap fun | .Name id pos => if kind id == some .local && pos.line == (ts.head?.map (·.pos.line)).getD 0 then some id else none | _ => none))
theorem sw_of {env : PySem.Env} {ts vs : List Expr} {k k2 : Nat} {p p2 : Pos} {r : Option (List Str)} (hb : env.blockKind = .function) (e : Sw (fun x => env.kindOf x) ts vs = some r) : swappedStores [.Tuple ts k p] (.Tuple vs k2 p2) env = pure r := by
  unfold Sw at e
  unfold swappedStores
  rw [hb]
  dsimp only
  have e0 : (ScopeKind.function != ScopeKind.function) = false := rfl
  rw [e0, Bool.or_false]
  by_cases h : (!(ts.length == 2 || ts.length == 3) || vs.length != ts.length) = true
  · rw [if_pos h] at e ⊢
    cases e
    rfl
  · rw [if_neg h] at e ⊢
    split at e
    · rename_i h2
      cases e
      exact if_pos h2
    · rename_i h2
      refine (if_neg h2).trans ?_
      split at e
      · rename_i h3
        cases e
        exact if_pos h3
      · rename_i h3
        refine (if_neg h3).trans ?_
        split at e
        · rename_i h4
          cases e
          exact if_pos h4
        · rename_i h4
          refine (if_neg h4).trans ?_
          split at e
          · cases e
          · rename_i h5
            cases e
            exact if_neg h5
def kindIn (m : Nm) : Str → Option NameKind := fun x => m.sc.names.lookup x
def isLoc (m : Nm) (i : Nat) : Bool := Nat.blt i m.N.length && m.sc.names.lookup (nmOf m.N i) == some .local
def asgOk (m : Nm) (t : T) (e : E) (ps : PL) : Bool := match t with
  | .tp ts => match e with
    | .tup es => decide (Sw (kindIn m) (pTs m ts ps.tail.tail).1 (pEs m es (pT m (.tp ts) ps.tail).2.tail).1 = some none)
    | _ => true
  | _ => true
def augOk : Operator → Bool
  | .Add => true
  | .Sub => true
  | _ => false
def notLc : E → Bool
  | .lc _ _ _ _ _ => false
  | _ => true
mutual
def kS : Nm → S → PL → Bool
  | m, .asg t e, ps => kT m t && kE m e && asgOk m t e ps
  | m, .par2 i j a b, ps => kE m a && kE m b && isLoc m i && isLoc m j && !(i == j) &&
      decide (Sw (kindIn m) [.Name (nmOf m.N i) (hd (ps.drop 2)), .Name (nmOf m.N j) (hd (ps.drop 3))] [(pE m a (ps.drop 5)).1, (pE m b (pE m a (ps.drop 5)).2).1] = some (some [nmOf m.N i, nmOf m.N j]))
  | m, .par3 i j k a b c, ps => kE m a && kE m b && kE m c && isLoc m i && isLoc m j && isLoc m k && !(i == j) && !(i == k) && !(j == k) &&
      decide (Sw (kindIn m) [.Name (nmOf m.N i) (hd (ps.drop 2)), .Name (nmOf m.N j) (hd (ps.drop 3)), .Name (nmOf m.N k) (hd (ps.drop 4))] [(pE m a (ps.drop 6)).1, (pE m b (pE m a (ps.drop 6)).2).1, (pE m c (pE m b (pE m a (ps.drop 6)).2).2).1] = some (some [nmOf m.N i, nmOf m.N j, nmOf m.N k]))
  | m, .aug i o e, ps => isA m i && kE m e && augOk o
  | m, .expr e, ps => kE m e && notLc e
  | m, .ife c a b, ps => kE m c && kSs m a (pE m c ps.tail).2 && kSs m b (pSs m a (pE m c ps.tail).2).2
  | m, .whl c b, ps => kE m c && kSs m b (pE m c ps.tail).2
  | m, .for t it b, ps => kT m t && kI m it && okTI t it && kSs m b (pI m it (pT m t ps.tail).2).2
  | m, .ret e, ps => kE m e
  | _, .ret0, _ => true
  | _, .pass, _ => true
  | _, .brk, _ => true
  | _, .cont, _ => true
  | _, .hole _, _ => true
def kSs : Nm → Ss → PL → Bool
  | _, .nil, _ => true
  | m, .cons s r, ps => kS m s ps && kSs m r (pS m s ps).2
end
/-- what is wanted behind -/
def Fin (K : PySem.W.Frag) (D : Ends) (Hb : Hp) : Fl → Store → Hp → List Addr → Prop
  | .nx ρ, _, H, μ => ∀ σ, RE K H μ ρ σ → D.nx σ H
  | .rt r, _, H, μ => ∀ v, RR K Hb H μ r v → D.rt v H
  | .bk ρ, _, H, μ => ∀ σ, RE K H μ ρ σ → D.bk σ H
  | .ct ρ, _, H, μ => ∀ σ, RE K H μ ρ σ → D.ct σ H
def tSS (RX : RXT) (K : PySem.W.Frag) (Ex : XK) (f : Env → Store → Res Fl) : TS := fun D σ H => ∃ ρ μ S, SR K H μ S ∧ RE K H μ ρ σ ∧ Out RX K Ex H μ (f ρ S) (Fin K D H)
structure SiteS (RX : RXT) (C : Ctx) (call : Nat → List D → Store → Res R) (m : Nm) (X : Cx) (W : WX) (Ex : XK) : Prop extends Site RX C call m X W where
  bk : X.env.blockKind = .function
  po : PassesOwn (model X.prog X.w) X.A X.env X.xe
  hE : ∀ σ c d H, Ex c d H → W c d σ H
section
variable {RX : RXT} {C : Ctx} {call : Nat → List D → Store → Res R} {m : Nm} {X : Cx} {W : WX} {Ex : XK}
variable {K : PySem.W.Frag} {H H0 : Hp} {μ μ0 : List Addr} {S : Store} {ρ : Env} {σ : L2.St} {β : Type} {p : β → Store → Hp → List Addr → Prop}
theorem seqEE (hE : ∀ σ c d H, Ex c d H → W c d σ H) {f : Env → Store → Res R} {g : R → Store → Res β} {Q : VK} (st : Step H0 μ0 H μ) (t : SR K H μ S) (r : RE K H μ ρ σ) (h : Out RX K Ex H0 μ0 ((f ρ S).bind g) p)
    (k : ∀ a S1 H1 μ1 v, Step H0 μ0 H1 μ1 → Step H μ H1 μ1 → SR K H1 μ1 S1 → RE K H1 μ1 ρ σ → RR K H H1 μ1 a v → Out RX K Ex H0 μ0 (g a S1) p → Q v H1) : tE RX K W f σ H Q :=
  ⟨ρ, μ, S, t, r, ((Out.bind st h).impE (hE σ)).imp fun a S1 H1 μ1 s1 t1 ⟨st1, _, _, h1⟩ v hv => k a S1 H1 μ1 v st1 s1 t1 (r.step s1) hv h1⟩
theorem seqTE (hE : ∀ σ c d H, Ex c d H → W c d σ H) {f : Env → Store → Res Bool} {g : Bool → Store → Res β} {Q : Bool → Hp → Prop} (st : Step H0 μ0 H μ) (t : SR K H μ S) (r : RE K H μ ρ σ) (h : Out RX K Ex H0 μ0 ((f ρ S).bind g) p)
    (k : ∀ a S1 H1 μ1, Step H0 μ0 H1 μ1 → Step H μ H1 μ1 → SR K H1 μ1 S1 → RE K H1 μ1 ρ σ → Out RX K Ex H0 μ0 (g a S1) p → Q a H1) : tT RX K W f σ H Q :=
  ⟨ρ, μ, S, t, r, ((Out.bind st h).impE (hE σ)).imp fun a S1 H1 μ1 s1 t1 ⟨st1, _, _, h1⟩ => k a S1 H1 μ1 st1 s1 t1 (r.step s1) h1⟩
theorem seqIE (hE : ∀ σ c d H, Ex c d H → W c d σ H) {f : Env → Store → Res Iter} {g : Iter → Store → Res β} {Q : L2.It → Hp → Prop} (st : Step H0 μ0 H μ) (t : SR K H μ S) (r : RE K H μ ρ σ) (h : Out RX K Ex H0 μ0 ((f ρ S).bind g) p)
    (k : ∀ a S1 H1 μ1, Step H0 μ0 H1 μ1 → Step H μ H1 μ1 → SR K H1 μ1 S1 → RE K H1 μ1 ρ σ → Out RX K Ex H0 μ0 (g a S1) p → Lens K H1 → ∀ J, ItR K H1 μ1 a J → Q J H1) : iI RX K W f σ H Q :=
  ⟨ρ, μ, S, t, r, ((Out.bind st h).impE (hE σ)).imp fun a S1 H1 μ1 s1 t1 ⟨st1, _, _, h1⟩ ln J hJ => k a S1 H1 μ1 st1 s1 t1 (r.step s1) h1 ln J hJ⟩
theorem tru_bind {β : Type} (r : Res R) (g : Bool → Store → Res β) : (r.bind fun x S => Q.opt (truth S x) fun k => g k S) = (tru r).bind g := by
  unfold tru
  rw [Res.assoc]
  congr 1
  funext x S1
  rw [opt_bind]
  rfl
theorem Fin.base' {D : Ends} {Hb Hc : Hp} {fl : Fl} (h : Fin K D Hc fl S H μ) (l : ∀ a, Hb a = none → Hc a = none) : Fin K D Hb fl S H μ := by
  cases fl with
  | rt r => exact fun v hv => h v (hv.base l)
  | _ => exact h
theorem sNever {s : Stmt} {f : Env → Store → Res Fl} (h : ∀ ρ S, f ρ S = .bad) : PS X s (tSS RX X.K Ex f) := (ps_never).imp fun D σ H hq => by
  obtain ⟨ρ, μ, S, t, r, z⟩ := hq
  rw [h] at z
  exact z.elim
theorem ssNil : PSs X [] (tSS RX X.K Ex (evSs C call .nil)) := pss_nil.imp fun D σ H hq => by
  obtain ⟨ρ, μ, S, t, r, z⟩ := hq
  rw [evSs] at z
  exact z H μ .refl t σ r
theorem ssCons {s : _root_.Q.S} {rest : Ss} {st : Stmt} {l : List Stmt} (h1 : PS X st (tSS RX X.K Ex (evS C call s))) (h2 : PSs X l (tSS RX X.K Ex (evSs C call rest))) : PSs X (st :: l) (tSS RX X.K Ex (evSs C call (.cons s rest))) := (pss_cons h1 h2).imp fun D σ H hq => by
  obtain ⟨ρ, μ, S, t, r, z⟩ := hq
  rw [evSs] at z
  refine ⟨ρ, μ, S, t, r, (Out.bind .refl z).imp fun fl S1 H1 μ1 s1 t1 ⟨_, _, _, h1⟩ => ?_⟩
  cases fl with
  | nx ρ1 => exact fun σ1 re => ⟨ρ1, μ1, S1, t1, re, (Out.at s1 h1).imp fun fl S2 H2 μ2 s2 t2 h3 => h3.base' s1.live⟩
  | rt r => exact h1 H1 μ1 s1 t1
  | bk ρ1 => exact h1 H1 μ1 s1 t1
  | ct ρ1 => exact h1 H1 μ1 s1 t1
end
end Q
end
section
-- Snd16
set_option Elab.async false
set_option linter.all false
set_option maxRecDepth 100000
set_option maxHeartbeats 4000000
namespace Q
open PySem PySem.Spec PyProof.Rows L2
section
variable {RX : RXT} {C : Ctx} {call : Nat → List D → Store → Res R} {m : Nm} {X : Cx} {W : WX} {Ex : XK}
theorem Site.nodup (st : Site RX C call m X W) : X.N.Nodup := by rw [st.nN]; exact st.nd
/-- a value, then a target -/
theorem asg_read (hE : ∀ σ c d H, Ex c d H → W c d σ H) {t : T} {e : E} {D : Ends} {σ : L2.St} {H : Hp} (hq : tSS RX X.K Ex (evS C call (.asg t e)) D σ H) : tE RX X.K W (evE C call e) σ H fun x H1 => tG RX X.K t.slots (asT C call t) x σ H1 D.nx := by
  obtain ⟨ρ, μ, S, tt, r, z⟩ := hq
  rw [evS] at z
  refine seqEE hE .refl tt r z fun x S1 H1 μ1 v st1 s1 t1 r1 hx h1 => ?_
  obtain ⟨d, S2, μ2, way, t2, rd, hix, hmem, h2⟩ := settle2 t1 hx h1
  have st2 : Step H μ H1 μ2 := way _ _ _ st1 fun _ z => z
  have r2 : RE X.K H1 μ2 ρ σ := r.step st2
  refine ⟨d, ρ, μ2, S2, rd, t2, r2, (Out.calm (Out.at st2 h2)).imp fun ρ3 S3 H3 μ3 s3 t3 h3 σ3 re3 _ => ?_⟩
  exact h3 H3 μ3 s3 t3 σ3 re3
theorem lc_or (e : E) : (∃ elt tg it c k, e = .lc elt tg it c k) ∨ ∀ a b c d e', e ≠ .lc a b c d e' := by
  cases e with
  | lc elt tg it c sc => exact .inl ⟨_, _, _, _, _, rfl⟩
  | _ => exact .inr fun _ _ _ _ _ z => nomatch z
theorem sAsg (st : SiteS RX C call m X W Ex) {t : T} {e : E} {ps : PL} {p : Pos} (h1 : kT m t = true) (h2 : kE m e = true) (h3 : asgOk m t e ps = true) :
    PS X (.Assign [(pT m t ps.tail).1] (pE m e (pT m t ps.tail).2).1 p) (tSS RX X.K Ex (evS C call (.asg t e))) := by
  have hT := sT t m X W ps.tail st.toSite h1
  have hE := sE e m X W (pT m t ps.tail).2 st.toSite h2
  have one : (assignEach [(pT m t ps.tail).1] X.env).map (·.2) = [assign (pT m t ps.tail).1 X.env] := by
    rw [asg_each]
    rfl
  have plain : swapsWithSole [(pT m t ps.tail).1] (pE m e (pT m t ps.tail).2).1 p.line X.env = pure false → swappedStores [(pT m t ps.tail).1] (pE m e (pT m t ps.tail).2).1 X.env = pure none → PS X (.Assign [(pT m t ps.tail).1] (pE m e (pT m t ps.tail).2).1 p) (tSS RX X.K Ex (evS C call (.asg t e))) := fun a b =>
    (ps_asg hE.1 hT a b one).imp fun D σ H hq => asg_read st.hE hq
  have noSw : swappedStores [(pT m t ps.tail).1] (pE m e (pT m t ps.tail).2).1 X.env = pure none := by
    cases t with
    | nm i => rw [pT]; cases e <;> rfl
    | sb o i => rw [pT]; cases e <;> rfl
    | tp ts =>
      cases e with
      | tup es =>
        have h3 := of_decide_eq_true h3
        have e1 : (pT m (.tp ts) ps.tail).1 = .Tuple (pTs m ts ps.tail.tail).1 0 (hd ps.tail) := by rw [pT]
        have e2 : ∀ qs, (pE m (.tup es) qs).1 = .Tuple (pEs m es qs.tail).1 0 (hd qs) := fun qs => by rw [pE]
        rw [e1, e2]
        refine sw_of st.bk ?_
        have e3 : (fun x => X.env.kindOf x) = kindIn m := by
          funext x
          show X.env.scope.names.lookup x = _
          rw [st.sc]
          rfl
        rw [e3]
        exact h3
      | _ => rw [pT]; rfl
  rcases lc_or e with ⟨elt, tg, it, c, k, ee⟩ | ne
  · subst ee
    cases t with
    | tp ts => exact plain (by rw [pT, pE]; rfl) noSw
    | sb o i => exact plain (by rw [pT, pE]; rfl) noSw
    | nm i =>
      cases hb : (X.env.blockKind == .function && X.env.kindOf (nmOf m.N i) == some .local && (hd ps.tail).line == (hd (pT m (.nm i) ps.tail).2).line && !((m.scp k).names.any fun (n, k) => n == nmOf m.N i && (k == .local || k == .cell))) with
      | false =>
        refine plain ?_ noSw
        rw [pT, pE]
        rw [pT] at hb
        show (pure _ : Sem Bool) = pure false
        rw [← hb]
        rfl
      | true =>
        have kl : X.env.scope.names.lookup (nmOf m.N i) = some .local := by
          rw [Bool.and_eq_true, Bool.and_eq_true, Bool.and_eq_true] at hb
          exact eq_of_beq hb.1.1.2
        rw [kT] at h1
        obtain ⟨a1, a2, a3⟩ := st.toSite.a h1
        rw [pT] at hb hE ⊢
        dsimp only at hb hE ⊢
        rw [kE] at h2
        obtain ⟨h, k1⟩ := and2 h2
        obtain ⟨h, k2⟩ := and2 h
        obtain ⟨h, k3⟩ := and2 h
        obtain ⟨h, k4⟩ := and2 h
        obtain ⟨h, k5⟩ := and2 h
        obtain ⟨k7, k6⟩ := and2 h
        rw [pE]
        dsimp only
        refine (ps_setLc (te := tE RX X.K (fun _ _ _ _ => False) (evE C call elt)) (tt := tT RX X.K (fun _ _ _ _ => False) (evC C call c)) (g := tG RX X.K tg.slots (asT C call tg)) (wi := iI RX X.K W (evI C call it)) (own := ownOf m tg) st.calm st.toSite.nodup a1 kl ?_ (sI it m X W _ st.toSite k7 (m.in (m.scp k)) tg _ k6) (blkOk_by (by rw [st.nN, st.sc]; exact k4))
          (fun s H Ce cl fp => sT tg (m.in (m.scp k)) (X.blk s H (m.scp k) (compEnvC (m.scp k) cl Ce X.env) fp) _ _ (st.toSite.blk (m.scp k) s H Ce cl fp) k3) (fun s H Ce cl fp => (sEo c (m.in (m.scp k)) (X.blk s H (m.scp k) (compEnvC (m.scp k) cl Ce X.env) fp) _ _ (st.toSite.blk (m.scp k) s H Ce cl fp) k2).2)
          (fun s H Ce cl fp => (sE elt (m.in (m.scp k)) (X.blk s H (m.scp k) (compEnvC (m.scp k) cl Ce X.env) fp) _ _ (st.toSite.blk (m.scp k) s H Ce cl fp) k1).1) (fun x => no_fold X.env m it _ x)).imp fun D σ H hq => ?_
        · show (pure _ : Sem Bool) = pure true
          rw [← hb]
          rfl
        · have h5 := asg_read st.hE hq
          have h6 : tE RX X.K W (evE C call (.lc elt tg it c k)) σ H (fun x H1 => gName i x σ H1 D.nx) := by
            obtain ⟨ρ, μ, S, t, r, z⟩ := h5
            refine ⟨ρ, μ, S, t, r, z.imp fun a S1 H1 μ1 s1 t1 h7 v hv => ?_⟩
            obtain ⟨d, ρ2, μ2, S2, rd, t2, r2, h8⟩ := h7 v hv
            rw [asT] at h8
            exact h8 H1 μ2 .refl t2 _ (r2.set rd i) (by rw [T.slots]; exact SameS.set i _)
          exact sLc_read st.toSite (hc := rfl) h6
  · refine plain ?_ noSw
    exact no_swap X.env _ _ m e _ ne
end
end Q
end
section
-- Snd17
set_option Elab.async false
set_option linter.all false
set_option maxRecDepth 100000
set_option maxHeartbeats 4000000
namespace Q
open PySem PySem.Spec PyProof.Rows L2
section
variable {RX : RXT} {C : Ctx} {call : Nat → List D → Store → Res R} {m : Nm} {X : Cx} {W : WX} {Ex : XK}
/-- a value to be held -/
theorem seqH (hE : ∀ σ c d H, Ex c d H → W c d σ H) {K : PySem.W.Frag} {H H0 : Hp} {μ μ0 : List Addr} {S : Store} {ρ : Env} {σ : L2.St} {β : Type} {p : β → Store → Hp → List Addr → Prop} {f : Env → Store → Res R} {g : D → Store → Res β} {Q : VK} (st : Step H0 μ0 H μ) (t : SR K H μ S) (r : RE K H μ ρ σ) (h : Out RX K Ex H0 μ0 ((f ρ S).bind fun x S => settle x S g) p)
    (k : ∀ d S1 H1 μ1 v, Step H0 μ0 H1 μ1 → Step H μ H1 μ1 → SR K H1 μ1 S1 → RE K H1 μ1 ρ σ → RD K H1 μ1 d v → Out RX K Ex H0 μ0 (g d S1) p → Q v H1) : tE RX K W f σ H Q :=
  seqEE hE st t r h fun x S1 H1 μ1 v st1 s1 t1 r1 hx h1 => by
    obtain ⟨d, S2, μ2, way, t2, rd, hix, hmem, h2⟩ := settle2 t1 hx h1
    have s2 : Step H μ H1 μ2 := way _ _ _ s1 fun _ z => z
    exact k d S2 H1 μ2 v (way _ _ _ st1 st.live) s2 t2 (r.step s2) rd h2
theorem isLoc_of (st : Site RX C call m X W) {i : Nat} (h : isLoc m i = true) : X.N[i]? = some (nmOf m.N i) ∧ X.env.scope.names.lookup (nmOf m.N i) = some .local := by
  unfold isLoc at h
  obtain ⟨h1, h2⟩ := and2 h
  exact ⟨by rw [st.nN]; exact nm_at (Nat.blt_eq.mp h1), by rw [st.sc]; exact eq_of_beq h2⟩
theorem kind_eq (st : Site RX C call m X W) : (fun x => X.env.kindOf x) = kindIn m := by
  funext x
  show X.env.scope.names.lookup x = _
  rw [st.sc]
  rfl
theorem ne_of {i j : Nat} (h : (!(i == j)) = true) : i ≠ j := by
  intro z
  subst z
  simp at h
theorem sPar2 (st : SiteS RX C call m X W Ex) {i j : Nat} {a b : E} {ps qs : PL} {p p1 p2 p3 p4 : Pos} (ka : kE m a = true) (kb : kE m b = true) (hi : isLoc m i = true) (hj : isLoc m j = true) (hij : (!(i == j)) = true)
    (hw : Sw (kindIn m) [.Name (nmOf m.N i) p1, .Name (nmOf m.N j) p2] [(pE m a ps).1, (pE m b qs).1] = some (some [nmOf m.N i, nmOf m.N j])) :
    PS X (.Assign [.Tuple [.Name (nmOf m.N i) p1, .Name (nmOf m.N j) p2] 0 p3] (.Tuple [(pE m a ps).1, (pE m b qs).1] 0 p4) p) (tSS RX X.K Ex (evS C call (.par2 i j a b))) := by
  obtain ⟨i1, i2⟩ := isLoc_of st.toSite hi
  obtain ⟨j1, j2⟩ := isLoc_of st.toSite hj
  have A := sE a m X W ps st.toSite ka
  have B := sE b m X W qs st.toSite kb
  refine (ps_par st.calm st.toSite.nodup i1 j1 (ne_of hij) i2 j2 (pa_cons A.1 (pa_cons B.1 pa_nil (star_cons _ m b qs [])) (star_cons _ m a ps _)) (sw_of st.bk (by rw [kind_eq st.toSite]; exact hw)) rfl).imp fun D σ H hq => ?_
  obtain ⟨ρ, μ, S, tt, r, z⟩ := hq
  rw [evS] at z
  refine seqH st.hE .refl tt r z fun d1 S1 H1 μ1 v1 st1 s1 t1 r1 rd1 h1 => seqH st.hE st1 t1 r1 h1 fun d2 S2 H2 μ2 v2 st2 s2 t2 r2 rd2 h2 => ?_
  exact ⟨v1, v2, rfl, h2 H2 μ2 st2 t2 _ ((r2.set (rd1.step s2) i).set rd2 j)⟩
theorem sPar3 (st : SiteS RX C call m X W Ex) {i j k : Nat} {a b c : E} {ps qs rs : PL} {p p1 p2 p3 p4 p5 : Pos} (ka : kE m a = true) (kb : kE m b = true) (kc : kE m c = true) (hi : isLoc m i = true) (hj : isLoc m j = true) (hk : isLoc m k = true) (hij : (!(i == j)) = true) (hik : (!(i == k)) = true) (hjk : (!(j == k)) = true)
    (hw : Sw (kindIn m) [.Name (nmOf m.N i) p1, .Name (nmOf m.N j) p2, .Name (nmOf m.N k) p5] [(pE m a ps).1, (pE m b qs).1, (pE m c rs).1] = some (some [nmOf m.N i, nmOf m.N j, nmOf m.N k])) :
    PS X (.Assign [.Tuple [.Name (nmOf m.N i) p1, .Name (nmOf m.N j) p2, .Name (nmOf m.N k) p5] 0 p3] (.Tuple [(pE m a ps).1, (pE m b qs).1, (pE m c rs).1] 0 p4) p) (tSS RX X.K Ex (evS C call (.par3 i j k a b c))) := by
  obtain ⟨i1, i2⟩ := isLoc_of st.toSite hi
  obtain ⟨j1, j2⟩ := isLoc_of st.toSite hj
  obtain ⟨k1, k2⟩ := isLoc_of st.toSite hk
  have A := sE a m X W ps st.toSite ka
  have B := sE b m X W qs st.toSite kb
  have Cc := sE c m X W rs st.toSite kc
  refine (ps_par3 st.calm st.toSite.nodup i1 j1 k1 (ne_of hij) (ne_of hik) (ne_of hjk) i2 j2 k2 (pa_cons A.1 (pa_cons B.1 (pa_cons Cc.1 pa_nil (star_cons _ m c rs [])) (star_cons _ m b qs _)) (star_cons _ m a ps _)) (sw_of st.bk (by rw [kind_eq st.toSite]; exact hw)) rfl).imp fun D σ H hq => ?_
  obtain ⟨ρ, μ, S, tt, r, z⟩ := hq
  rw [evS] at z
  refine seqH st.hE .refl tt r z fun d1 S1 H1 μ1 v1 st1 s1 t1 r1 rd1 h1 => seqH st.hE st1 t1 r1 h1 fun d2 S2 H2 μ2 v2 st2 s2 t2 r2 rd2 h2 => seqH st.hE st2 t2 r2 h2 fun d3 S3 H3 μ3 v3 st3 s3 t3 r3 rd3 h3 => ?_
  exact ⟨v1, v2, v3, rfl, h3 H3 μ3 st3 t3 _ (((r3.set ((rd1.step s2).step s3) i).set (rd2.step s3) j).set rd3 k)⟩
theorem sAug (st : SiteS RX C call m X W Ex) {i : Nat} {o : Operator} {e : E} {ee : Expr} {p p1 : Pos} (hi : isA m i = true) (he : Snd RX X W ee (evE C call e)) (ho : augOk o = true) : PS X (.AugAssign (.Name (nmOf m.N i) p1) o ee p) (tSS RX X.K Ex (evS C call (.aug i o e))) := by
  obtain ⟨h1, h2, h3⟩ := st.toSite.a hi
  cases o with
  | Add =>
    refine (ps_aug st.toSite.nodup h1 h2 he.1 ip_add h3).imp fun D σ H hq => ?_
    obtain ⟨ρ, μ, S, tt, r, z⟩ := hq
    rw [evS] at z
    split at z
    · rename_i d hd
      obtain ⟨v, e1, e2⟩ := r.at_ i d hd
      refine ⟨v, e1, seqEE st.hE .refl tt r z fun x S1 H1 μ1 u st1 s1 t1 r1 hx h4 => ?_⟩
      obtain ⟨d2, ed, h5⟩ := h4.opt
      unfold evAug at ed
      split at ed
      · cases ed
        have q1 := rd_int e2
        have q2 := rd_int hx
        subst q1 q2
        exact ⟨_, _, rfl, rfl, h5 H1 μ1 st1 t1 _ (r1.set (.int _) i)⟩
      · cases ed
    · exact z.elim
  | Sub =>
    refine (ps_aug st.toSite.nodup h1 h2 he.1 ip_sub h3).imp fun D σ H hq => ?_
    obtain ⟨ρ, μ, S, tt, r, z⟩ := hq
    rw [evS] at z
    split at z
    · rename_i d hd
      obtain ⟨v, e1, e2⟩ := r.at_ i d hd
      refine ⟨v, e1, seqEE st.hE .refl tt r z fun x S1 H1 μ1 u st1 s1 t1 r1 hx h4 => ?_⟩
      obtain ⟨d2, ed, h5⟩ := h4.opt
      unfold evAug at ed
      split at ed
      · cases ed
        have q1 := rd_int e2
        have q2 := rd_int hx
        subst q1 q2
        exact ⟨_, _, rfl, rfl, h5 H1 μ1 st1 t1 _ (r1.set (.int _) i)⟩
      · cases ed
    · exact z.elim
  | _ => cases ho
theorem sExpr (st : SiteS RX C call m X W Ex) {e : E} {ps : PL} {p : Pos} (he : Snd RX X W (pE m e ps).1 (evE C call e)) (hl : notLc e = true) : PS X (.Expr (pE m e ps).1 p) (tSS RX X.K Ex (evS C call (.expr e))) := by
  refine (ps_expr he.1 (no_swap X.env none p.line m e ps fun a b c d e' z => by subst z; cases hl)).imp fun D σ H hq => ?_
  obtain ⟨ρ, μ, S, tt, r, z⟩ := hq
  rw [evS] at z
  exact seqEE st.hE .refl tt r z fun x S1 H1 μ1 v st1 s1 t1 r1 hx h1 => h1 H1 μ1 st1 t1 σ r1
theorem sIf (st : SiteS RX C call m X W Ex) {c : E} {a b : Ss} {ec : Expr} {la lb : List Stmt} {p : Pos} (hc : Snd RX X W ec (evE C call c)) (ha : PSs X la (tSS RX X.K Ex (evSs C call a))) (hb : PSs X lb (tSS RX X.K Ex (evSs C call b))) : PS X (.If ec la lb p) (tSS RX X.K Ex (evS C call (.ife c a b))) := by
  refine (ps_if hc.2 ha hb).imp fun D σ H hq => ?_
  obtain ⟨ρ, μ, S, tt, r, z⟩ := hq
  rw [evS, tru_bind] at z
  refine seqTE (f := fun ρ S => tru (evE C call c ρ S)) st.hE .refl tt r z fun k S1 H1 μ1 st1 s1 t1 r1 h1 => ?_
  cases k with
  | true => exact ⟨ρ, μ1, S1, t1, r1, (Out.at st1 h1).imp fun fl S2 H2 μ2 s2 t2 h2 => h2.base' st1.live⟩
  | false => exact ⟨ρ, μ1, S1, t1, r1, (Out.at st1 h1).imp fun fl S2 H2 μ2 s2 t2 h2 => h2.base' st1.live⟩
theorem sWhl (st : SiteS RX C call m X W Ex) {c : E} {b : Ss} {ec : Expr} {lb : List Stmt} {p : Pos} (hc : Snd RX X W ec (evE C call c)) (hb : PSs X lb (tSS RX X.K Ex (evSs C call b))) : PS X (.While ec lb [] p) (tSS RX X.K Ex (evS C call (.whl c b))) := by
  refine (ps_while st.po hc.2 hb).imp fun D σ H hq => ?_
  obtain ⟨ρ, μ, S, tt, r, z⟩ := hq
  rw [evS] at z
  refine ⟨fun m σ1 H1 => ∃ ρ1 μ1 S1, Step H μ H1 μ1 ∧ SR X.K H1 μ1 S1 ∧ RE X.K H1 μ1 ρ1 σ1 ∧ Out RX X.K Ex H μ (evWhl (evE C call c) (evSs C call b) m ρ1 S1) (Fin X.K D H), ⟨_, ρ, μ, S, .refl, tt, r, z⟩, ?_⟩
  rintro m σ1 H1 ⟨ρ1, μ1, S1, st1, t1, r1, h1⟩
  cases m with
  | zero => exact h1.elim
  | succ f =>
    rw [evWhl, tru_bind] at h1
    refine seqTE (f := fun ρ S => tru (evE C call c ρ S)) st.hE st1 t1 r1 h1 fun k S2 H2 μ2 st2 s2 t2 r2 h2 => ?_
    cases k with
    | false => exact h2 H2 μ2 st2 t2 σ1 r2
    | true =>
      refine ⟨_, fun σ' H' hN => ⟨f, Nat.lt_succ_self _, hN⟩, ρ1, μ2, S2, t2, r2, (Out.bind st2 h2).imp fun fl S3 H3 μ3 s3 t3 ⟨st3, _, _, h3⟩ => ?_⟩
      cases fl with
      | nx ρ3 => exact fun σ3 re3 => ⟨ρ3, μ3, S3, st3, t3, re3, h3⟩
      | ct ρ3 => exact fun σ3 re3 => ⟨ρ3, μ3, S3, st3, t3, re3, h3⟩
      | bk ρ3 => exact fun σ3 re3 => h3 H3 μ3 st3 t3 σ3 re3
      | rt r => exact fun v hv => h3 H3 μ3 st3 t3 v (hv.base st2.live)
theorem for_snd {K : PySem.W.Frag} {H H0 : Hp} {μ μ0 : List Addr} {S : Store} {ρ : Env} {σ : L2.St} {turn : D → Env → Store → Res Fl} {I : Iter} {J : L2.It} {g : TG} {tb : TS} {D : Ends} {Hf : Hp}
    (st : Step H0 μ0 H μ) (t : SR K H μ S) (r : RE K H μ ρ σ) (ln : Lens K H) (hJ : ItR K H μ I J) (h : Out RX K Ex H0 μ0 (forI turn I ρ S) (Fin K D Hf)) (hf : ∀ a, Hf a = none → H0 a = none)
    (hturn : ∀ (d : Q.D) x σ H μ S ρ (q : Fl → Store → Res Fl) (N : L2.St → Hp → Prop), Step H0 μ0 H μ → SR K H μ S → RE K H μ ρ σ → RD K H μ d x → Out RX K Ex H0 μ0 ((turn d ρ S).bind q) (Fin K D Hf) →
      (∀ fl H' μ' S', Step H0 μ0 H' μ' → Step H μ H' μ' → SR K H' μ' S' → Out RX K Ex H0 μ0 (q fl S') (Fin K D Hf) → Fin K { D with nx := N, ct := N, bk := D.nx } Hf fl S' H' μ') →
      g x σ H fun σ2 H2 => tb { D with nx := N, ct := N, bk := D.nx } σ2 H2) :
    ∃ W : Nat → Nat → L2.St → Hp → Prop, (∃ m, W 0 m σ H) ∧ ∀ i m σ H, W i m σ H →
      (J.stop i H ∧ D.nx σ H) ∨ (J.go i H ∧ ∃ N : L2.St → Hp → Prop, (∀ σ' H', N σ' H' → ∃ m', m' < m ∧ W (i + 1) m' σ' H') ∧ ∀ x H', J.yld i H x H' → g x σ H' fun σ2 H2 => tb { D with nx := N, ct := N, bk := D.nx } σ2 H2) := by
  cases I with
  | its ds =>
    obtain ⟨hz, G, w, hG⟩ := hJ
    have h : Out RX K Ex H0 μ0 (forL turn ds ρ S) (Fin K D Hf) := h
    refine ⟨fun i m σ H => m = ds.length - i ∧ i ≤ ds.length ∧ ∃ μ S ρ, Step H0 μ0 H μ ∧ SR K H μ S ∧ RE K H μ ρ σ ∧ G none H μ ∧ Out RX K Ex H0 μ0 (forL turn (ds.drop i) ρ S) (Fin K D Hf),
      ⟨ds.length, by simp, Nat.zero_le _, μ, S, ρ, st, t, r, hG none (fun d e => by cases e), by rw [List.drop_zero]; exact h⟩, ?_⟩
    rintro i m σ1 H1 ⟨rfl, hi, μ1, S1, ρ1, st1, t1, r1, g1, h1⟩
    by_cases hlt : i < ds.length
    · have hd : ds[i]? = some ds[i] := List.getElem?_eq_getElem hlt
      rw [List.drop_eq_getElem_cons hlt] at h1
      refine .inr ⟨w.goes _ i H1 μ1 hlt g1, _, fun σ' H' hN => ⟨ds.length - (i + 1), by omega, rfl, hlt, hN⟩, fun x H' hy => ?_⟩
      obtain ⟨k, rd⟩ := w.yields _ i H1 μ1 x H' _ hd g1 hy
      have s' : Step H1 μ1 H' μ1 := StepD.grow k
      refine hturn ds[i] x σ1 H' μ1 S1 ρ1 _ _ (st1.trans s') (t1.grow k) (r1.step s') rd h1 fun fl H2 μ2 S2 st2 s2 t2 h2 => ?_
      cases fl with
      | nx ρ2 => exact fun σ2 re2 => ⟨μ2, S2, ρ2, st2, t2, re2, w.stab _ _ _ _ _ (w.stab _ _ _ _ _ g1 s') s2, h2⟩
      | ct ρ2 => exact fun σ2 re2 => ⟨μ2, S2, ρ2, st2, t2, re2, w.stab _ _ _ _ _ (w.stab _ _ _ _ _ g1 s') s2, h2⟩
      | bk ρ2 => exact fun σ2 re2 => h2 H2 μ2 st2 t2 σ2 re2
      | rt rr => exact fun v hv => h2 H2 μ2 st2 t2 v hv
    · have e : i = ds.length := by omega
      subst e
      rw [List.drop_length] at h1
      exact .inl ⟨w.stops _ H1 μ1 g1, h1 H1 μ1 st1 t1 σ1 r1⟩
  | live n =>
    obtain ⟨a, ha, rfl⟩ := hJ
    unfold forI at h
    dsimp only at h
    split at h
    · rename_i ds hs
      refine ⟨fun i m σ H => i + m = ds.length ∧ ∃ μ S ρ, Step H0 μ0 H μ ∧ SR K H μ S ∧ RE K H μ ρ σ ∧ μ[n]? = some a ∧ Out RX K Ex H0 μ0 (forV turn n m i ρ S) (Fin K D Hf),
        ⟨ds.length, by omega, μ, S, ρ, st, t, r, ha, h⟩, ?_⟩
      rintro i m σ1 H1 ⟨hi, μ1, S1, ρ1, st1, t1, r1, g1, h1⟩
      have key : ∀ ds1, S1[n]? = some (.lst ds1) → ∃ vs1, H1 a = some (.lst vs1) ∧ RDs K H1 μ1 ds1 vs1 := fun ds1 e => by
        obtain ⟨o, o1, vs1, e1, q1⟩ := t1.cell n _ _ e g1
        subst e1
        exact ⟨vs1, o1, q1⟩
      have stop : ∀ (ds1 : List Q.D), S1[n]? = some (.lst ds1) → ds1[i]? = none → (Itl K a).stop i H1 := fun ds1 e e2 => by
        obtain ⟨vs1, o1, q1⟩ := key ds1 e
        refine ⟨vs1, SqL.of o1, ?_⟩
        rw [← q1.length]
        exact List.getElem?_eq_none_iff.mp e2
      cases m with
      | zero =>
        unfold forV at h1
        split at h1
        · rename_i ds1 e1
          split at h1
          · rename_i e2
            exact .inl ⟨stop ds1 e1 e2, h1 H1 μ1 st1 t1 σ1 r1⟩
          · exact h1.elim
        · exact h1.elim
      | succ m =>
        unfold forV at h1
        split at h1
        · rename_i ds1 e1
          split at h1
          · rename_i e2
            exact .inl ⟨stop ds1 e1 e2, h1 H1 μ1 st1 t1 σ1 r1⟩
          · rename_i d e2
            obtain ⟨vs1, o1, q1⟩ := key ds1 e1
            obtain ⟨v, f1, f2⟩ := q1.get e2
            refine .inr ⟨⟨vs1, v, SqL.of o1, f1⟩, _, fun σ' H' hN => ⟨m, Nat.lt_succ_self _, by omega, hN⟩, fun x H' hy => ?_⟩
            obtain ⟨eH, hy⟩ := hy
            subst eH
            have ex := hy vs1 (SqL.of o1)
            rw [f1] at ex
            cases ex
            refine hturn d v σ1 H' μ1 S1 ρ1 _ _ st1 t1 r1 f2 h1 fun fl H2 μ2 S2 st2 s2 t2 h2 => ?_
            cases fl with
            | nx ρ2 => exact fun σ2 re2 => ⟨μ2, S2, ρ2, st2, t2, re2, s2.ix g1, h2⟩
            | ct ρ2 => exact fun σ2 re2 => ⟨μ2, S2, ρ2, st2, t2, re2, s2.ix g1, h2⟩
            | bk ρ2 => exact fun σ2 re2 => h2 H2 μ2 st2 t2 σ2 re2
            | rt rr => exact fun v hv => h2 H2 μ2 st2 t2 v hv
        · exact h1.elim
    · exact h.elim
theorem sFor (st : SiteS RX C call m X W Ex) {t : T} {it : It} {b : Ss} {et ei : Expr} {lb : List Stmt} {p : Pos} (ht : PG X et (tG RX X.K t.slots (asT C call t))) (hi : PI X et ei (iI RX X.K W (evI C call it))) (hb : PSs X lb (tSS RX X.K Ex (evSs C call b))) (hf : ∀ x, foldedSetIterable ei X.env x = pure x) : PS X (.For et ei lb [] p) (tSS RX X.K Ex (evS C call (.for t it b))) := by
  refine (ps_for st.po st.calm hi ht hb hf).imp fun D σ H hq => ?_
  obtain ⟨ρ, μ, S, tt, r, z⟩ := hq
  rw [evS] at z
  refine seqIE st.hE .refl tt r z fun I S1 H1 μ1 st1 s1 t1 r1 h1 ln J hJ => ?_
  refine for_snd st1 t1 r1 ln hJ h1 (fun _ z => z) fun d x σ2 H2 μ2 S2 ρ2 q N st2 t2 r2 rd h2 hN => ?_
  rw [Res.assoc] at h2
  refine ⟨d, ρ2, μ2, S2, rd, t2, r2, (Out.at st2 (Out.calm h2)).imp fun ρ3 S3 H3 μ3 s3 t3 h3 σ3 re3 _ => ?_⟩
  refine ⟨ρ3, μ3, S3, t3, re3, (Out.bind (st2.trans s3) h3).imp fun fl S4 H4 μ4 s4 t4 ⟨st4, _, _, h4⟩ => ?_⟩
  exact (hN fl H4 μ4 S4 st4 (s3.trans s4) t4 h4).base' (st2.trans s3).live
mutual
theorem sS : ∀ (s : Q.S) (m : Nm) (X : Cx) (W : WX) (ps : PL), SiteS RX C call m X W Ex → kS m s ps = true → PS X (pS m s ps).1 (tSS RX X.K Ex (evS C call s))
  | .asg t e, m, X, W, ps, st, h => by
    rw [pS]
    rw [kS] at h
    obtain ⟨h1, h2, h3⟩ := and3 h
    exact sAsg st h1 h2 h3
  | .par2 i j a b, m, X, W, ps, st, h => by
    rw [pS]
    rw [kS] at h
    obtain ⟨h, k1⟩ := and2 h
    obtain ⟨h, k2⟩ := and2 h
    obtain ⟨h, k3⟩ := and2 h
    obtain ⟨k6, k5, k4⟩ := and3 h
    exact sPar2 st k6 k5 k4 k3 k2 (of_decide_eq_true k1)
  | .par3 i j k a b c, m, X, W, ps, st, h => by
    rw [pS]
    rw [kS] at h
    obtain ⟨h, k1⟩ := and2 h
    obtain ⟨h, k2⟩ := and2 h
    obtain ⟨h, k3⟩ := and2 h
    obtain ⟨h, k4⟩ := and2 h
    obtain ⟨h, k5⟩ := and2 h
    obtain ⟨h, k6⟩ := and2 h
    obtain ⟨h, k7⟩ := and2 h
    obtain ⟨k10, k9, k8⟩ := and3 h
    exact sPar3 st k10 k9 k8 k7 k6 k5 k4 k3 k2 (of_decide_eq_true k1)
  | .aug i o e, m, X, W, ps, st, h => by
    rw [pS]
    rw [kS] at h
    obtain ⟨h1, h2, h3⟩ := and3 h
    exact sAug st h1 (sE e m X W _ st.toSite h2) h3
  | .expr e, m, X, W, ps, st, h => by
    rw [pS]
    rw [kS] at h
    obtain ⟨h1, h2⟩ := and2 h
    exact sExpr st (sE e m X W _ st.toSite h1) h2
  | .ife c a b, m, X, W, ps, st, h => by
    rw [pS]
    rw [kS] at h
    obtain ⟨h1, h2, h3⟩ := and3 h
    exact sIf st (sE c m X W _ st.toSite h1) (sSs a m X W _ st h2) (sSs b m X W _ st h3)
  | .whl c b, m, X, W, ps, st, h => by
    rw [pS]
    rw [kS] at h
    obtain ⟨h1, h2⟩ := and2 h
    exact sWhl st (sE c m X W _ st.toSite h1) (sSs b m X W _ st h2)
  | .for t it b, m, X, W, ps, st, h => by
    rw [pS]
    rw [kS] at h
    obtain ⟨h, k1⟩ := and2 h
    obtain ⟨k4, k3, k2⟩ := and3 h
    exact sFor st (sT t m X W _ st.toSite k4) (sI it m X W _ st.toSite k3 m t _ k2) (sSs b m X W _ st k1) (fun x => no_fold _ m it _ x)
  | .ret e, m, X, W, ps, st, h => by
    rw [pS]
    rw [kS] at h
    refine (ps_ret (sE e m X W _ st.toSite h).1).imp fun D σ H hq => ?_
    obtain ⟨ρ, μ, S, tt, r, z⟩ := hq
    rw [evS] at z
    exact seqEE st.hE .refl tt r z fun x S1 H1 μ1 v st1 s1 t1 r1 hx h1 => h1 H1 μ1 st1 t1 v hx
  | .ret0, m, X, W, ps, st, h => by
    rw [pS]
    refine ps_retN.imp fun D σ H hq => ?_
    obtain ⟨ρ, μ, S, tt, r, z⟩ := hq
    rw [evS] at z
    exact z H μ .refl tt _ .non
  | .pass, m, X, W, ps, st, h => by
    rw [pS]
    refine ps_pass.imp fun D σ H hq => ?_
    obtain ⟨ρ, μ, S, tt, r, z⟩ := hq
    rw [evS] at z
    exact z H μ .refl tt _ r
  | .brk, m, X, W, ps, st, h => by
    rw [pS]
    refine ps_break.imp fun D σ H hq => ?_
    obtain ⟨ρ, μ, S, tt, r, z⟩ := hq
    rw [evS] at z
    exact z H μ .refl tt _ r
  | .cont, m, X, W, ps, st, h => by
    rw [pS]
    refine ps_continue.imp fun D σ H hq => ?_
    obtain ⟨ρ, μ, S, tt, r, z⟩ := hq
    rw [evS] at z
    exact z H μ .refl tt _ r
  | .hole k, m, X, W, ps, st, h => sNever fun ρ S => by rw [evS]
theorem sSs : ∀ (s : Ss) (m : Nm) (X : Cx) (W : WX) (ps : PL), SiteS RX C call m X W Ex → kSs m s ps = true → PSs X (pSs m s ps).1 (tSS RX X.K Ex (evSs C call s))
  | .nil, m, X, W, ps, st, h => by
    rw [pSs]
    exact ssNil
  | .cons s r, m, X, W, ps, st, h => by
    rw [pSs]
    rw [kSs] at h
    obtain ⟨h1, h2⟩ := and2 h
    exact ssCons (sS s m X W _ st h1) (sSs r m X W _ st h2)
end
end
end Q
end
section
-- Snd18
set_option Elab.async false
set_option linter.all false
set_option maxRecDepth 100000
set_option maxHeartbeats 4000000
namespace Q
open PySem PySem.Spec PyProof.Rows L2

/-! ### calls -/
section
variable {K : PySem.W.Frag} {H H0 : Hp} {μ ν : List Addr} {S : Store}
mutual
theorem RD.low : ∀ {d : D} {v : L2.V} (f : Nat), RD K H (μ ++ ν) d v → lowD μ.length f d = true → RD K H μ d v
  | _, _, 0, _, h => by cases h
  | _, _, f + 1, .non, _ => .non
  | _, _, f + 1, .bl b, _ => .bl b
  | _, _, f + 1, .int i, _ => .int i
  | _, _, f + 1, .str x, _ => .str x
  | _, _, f + 1, .tup h r, e => .tup h (RDs.low f r e)
  | _, _, f + 1, .fl h r, e => .fl h (RDs.low f r e)
  | _, _, f + 1, .ref h, e => .ref (by
    rw [List.getElem?_append_left (Nat.blt_eq.mp e)] at h
    exact h)
theorem RDs.low : ∀ {d : List D} {v : List L2.V} (f : Nat), RDs K H (μ ++ ν) d v → d.all (lowD μ.length f) = true → RDs K H μ d v
  | _, _, f, .nil, _ => .nil
  | _, _, f, .cons r t, e => by
    rw [List.all_cons] at e
    exact .cons (RD.low f r (and2 e).1) (RDs.low f t (and2 e).2)
end
theorem CR.low {c : Cell} {o : HO} (h : CR K H (μ ++ ν) c o) (e : lowC μ.length c = true) : CR K H μ c o := by
  cases c with
  | lst ds => obtain ⟨vs, h1, h2⟩ := h; exact ⟨vs, h1, RDs.low 66 h2 e⟩
  | dct k => exact h
theorem SR.low (t : SR K H (μ ++ ν) S) (h : (S.take μ.length).all (lowC μ.length) = true) : SR K H μ (S.take μ.length) := by
  refine ⟨?_, (List.nodup_append.mp t.nd).1, fun n c a e1 e2 => ?_⟩
  · have := t.len
    rw [List.length_append] at this
    rw [List.length_take]
    omega
  · have hn : n < μ.length := (List.getElem?_eq_some_iff.mp e2).1
    rw [List.getElem?_take_of_lt hn] at e1
    obtain ⟨o, h1, h2⟩ := t.cell n c a e1 (by rw [List.getElem?_append_left hn]; exact e2)
    refine ⟨o, h1, h2.low (List.all_eq_true.mp h c ?_)⟩
    exact List.mem_of_getElem? (i := n) (by rw [List.getElem?_take_of_lt hn]; exact e1)
/-- what is dropped behind a call -/
theorem fin_of {RX : RXT} {E : XK} {S0 S1 : Store} {H1 : Hp} {μ1 : List Addr} {r : R} {v : L2.V} {p : R → Store → Hp → List Addr → Prop} (t0 : SR K H μ S0) (st : Step H μ H1 μ1) (t1 : SR K H1 μ1 S1) (hr : RR K H H1 μ1 r v)
    (h : Out RX K E H μ (fin S0.length r S1) p) : ∃ r' S' μ', Step H μ H1 μ' ∧ SR K H1 μ' S' ∧ RR K H H1 μ' r' v ∧ p r' S' H1 μ' := by
  have same : Out RX K E H μ (Res.ok r S1) p → ∃ r' S' μ', Step H μ H1 μ' ∧ SR K H1 μ' S' ∧ RR K H H1 μ' r' v ∧ p r' S' H1 μ' := fun h => ⟨r, S1, μ1, st, t1, hr, h H1 μ1 st t1⟩
  obtain ⟨ν, eν, hν⟩ := st.pre
  subst eν
  rw [← t0.len] at h
  have sd : Step H μ H1 μ := StepD.mk' st.keep st.tups st.live ⟨[], by simp, by simp⟩
  unfold fin at h
  split at h
  · exact same h
  · split at h
    · rename_i hall
      have tl := t1.low hall
      have drop : ∀ r', Out RX K E H μ (Res.ok r' (S1.take μ.length)) p → RR K H H1 μ r' v → ∃ r' S' μ', Step H μ H1 μ' ∧ SR K H1 μ' S' ∧ RR K H H1 μ' r' v ∧ p r' S' H1 μ' := fun r' h hr => ⟨r', _, μ, sd, tl, hr, h H1 μ sd tl⟩
      split at h
      · rename_i ds
        split at h
        · rename_i hl
          obtain ⟨a, vs, e, h0, h1, h2, h3⟩ := hr
          exact drop _ h ⟨a, vs, e, h0, h1, fun z => h2 (List.mem_append_left _ z), RDs.low 66 h3 hl⟩
        · exact same h
      · rename_i m
        split at h
        · rename_i hl
          exact drop _ h (RD.low 1 (d := .ref m) hr hl)
        · rename_i hnl
          split at h
          · rename_i ds hs
            split at h
            · rename_i hl
              cases (show RD K H1 (μ ++ ν) (.ref m) v from hr) with
              | @ref _ a hm =>
                obtain ⟨o, h1, vs, h2, h3⟩ := t1.cell m _ _ hs hm
                subst h2
                have hge : μ.length ≤ m := by
                  have : ¬ m < μ.length := fun z => hnl (Nat.blt_eq.mpr z)
                  omega
                have ha : a ∈ ν := by
                  rw [List.getElem?_append_right hge] at hm
                  exact List.mem_of_getElem? hm
                refine drop _ h ⟨a, vs, rfl, hν a ha, h1, fun z => ?_, RDs.low 66 h3 hl⟩
                exact (List.nodup_append.mp t1.nd).2.2 a z a ha rfl
            · exact same h
          · exact same h
      · rename_i d _
        split at h
        · rename_i hl
          exact drop _ h (RD.low 66 (show RD K H1 (μ ++ ν) d v from hr) hl)
        · exact same h
    · exact same h
end
/-- a def of the text -/
structure FD where
  name : Str
  fn : Fn
  N : List Str
structure Tab where
  fds : List FD
  gl : List (Str × D)
  fuel : Nat
def Tab.ctx (T : Tab) : Ctx := ⟨T.fds.map (·.fn), T.gl.map (·.2), T.fuel⟩
def FD.sig (d : FD) : Str × Nat × Nat := (d.name, d.fn.np, d.fn.df.length)
def Tab.nm (T : Tab) (d : FD) (st : Stmt) : Nm := ⟨d.N, defScope st, fun _ => true, T.fds.map FD.sig, T.gl.map (·.1), hSs 60 (defBody st), (xSs 200 (defBody st)).filterMap Xi.scp⟩
/-- what must be looked at of a def -/
structure FOk (T : Tab) (d : FD) (st : Stmt) : Prop where
  body : (pSs (T.nm d st) d.fn.body ((xSs 200 (defBody st)).filterMap Xi.pos)).1 = defBody st
  ok : kSs (T.nm d st) d.fn.body ((xSs 200 (defBody st)).filterMap Xi.pos) = true
  sc : FnScope d.N (d.N.take d.fn.np) (defScope st)
  ns : d.fn.ns = d.N.length
  np : d.fn.np ≤ d.N.length
/-- .. and of the written part -/
structure FAt (K : PySem.W.Frag) (mg : Str → Option Value) (d : FD) (st : Stmt) (fa : Addr) (fd : FuncData) : Prop where
  ex : ∃ (oc : Value) (od : Option Addr) (dV kV doc pm : Value) (an : Option Addr) (cdv ct : Value) (osl : Array (Option Value)),
    fd = PySem.W.fnOf d.name d.name (defArgs st) (defBody st) (defScope st) dV kV doc pm an cdv ct ∧ K.lookup fa = some ⟨oc, od, .func fd, osl⟩ ∧ PySem.W.codeIn K cdv d.name = true
  mg : mg d.name = some (.ref fa)
  kp : PySem.W.keepIn K (.ref fa) = true
  bd : ∀ n, n ≤ d.fn.np → d.fn.np ≤ n + d.fn.df.length → ∃ us dvs, Binds K fd (d.N.take d.fn.np) us ∧ Vals dvs us ∧ ∀ H μ, RDs K H μ (d.fn.df.drop (d.fn.df.length - (d.fn.np - n))) dvs
structure TOk (T : Tab) (K : PySem.W.Frag) (mg : Str → Option Value) (st : Nat → Stmt) : Prop where
  fn : ∀ f d, T.fds[f]? = some d → FOk T d (st f) ∧ ∃ fa fd, FAt K mg d (st f) fa fd
  gl : ∀ (j : Nat) x d, T.gl[j]? = some (x, d) → ∃ v u, mg x = some u ∧ RelV v u ∧ ∀ H μ, RD K H μ d v
  bt : ∀ x ∈ bnames, mg x = none
section
variable {P : Program} {w : World} {K : PySem.W.Frag} {mg : Str → Option Value} {base : Heap} {RX : RXT} {T : Tab} {st : Nat → Stmt}
theorem spC_len {f : Nat} {d : FD} (hd : T.fds[f]? = some d) {n : Nat} {vs : List L2.V} {H : Hp} {Q : VK} {E : XK} (h : spC RX K (evCall T.ctx n) f vs H Q E) : vs.length = d.fn.np := by
  obtain ⟨ds, μ, S, t, r, h⟩ := h
  cases n with
  | zero => exact h.elim
  | succ n =>
    rw [evCall] at h
    obtain ⟨F, eF, h⟩ := h.opt
    have e1 : F = d.fn := by
      have : (T.fds.map (·.fn))[f]? = some F := eF
      rw [List.getElem?_map, hd] at this
      exact (Option.some.inj this).symm
    subst e1
    split at h
    · rename_i hl
      rw [← r.length]
      exact eq_of_beq hl
    · exact h.elim
theorem start_re {ds : List D} {vs : List L2.V} {H : Hp} {μ : List Addr} {F : Fn} {N : List Str} (r : RDs K H μ ds vs) (h : F.ns = N.length) : RE K H μ (Q.start F ds) (L2.start N vs) := by
  unfold Q.start L2.start
  have hl := r.length
  refine ⟨by simp [hl, h], fun i d e => ?_⟩
  by_cases hi : i < ds.length
  · rw [List.getElem?_append_left (by simpa using hi), List.getElem?_map] at e
    cases e2 : ds[i]? with
    | none => rw [e2] at e; cases e
    | some d' =>
      rw [e2] at e
      cases e
      obtain ⟨v, h1, h2⟩ := r.get e2
      refine ⟨v, ?_, h2⟩
      rw [List.getElem?_append_left (by rw [List.length_map, ← hl]; exact hi), List.getElem?_map, h1]
      rfl
  · rw [List.getElem?_append_right (by simpa using hi), List.getElem?_replicate] at e
    split at e <;> cases e
/-- every def keeps what the evaluator says -/
theorem fn_all (h : TOk T K mg st) : ∀ (n f : Nat) d, T.fds[f]? = some d → ∀ fa fd, FAt K mg d (st f) fa fd → FnOk P w K mg base (L2.CX P w) n fa fd (d.N.take d.fn.np) (spC RX K (evCall T.ctx n) f)
  | 0, f, d, hd, fa, fd, F => ⟨fun vs H Q E z => by obtain ⟨_, _, _, _, _, z⟩ := z; exact z.elim, fun A outer s H args us vs Q E _ _ _ _ z => by obtain ⟨_, _, _, _, _, z⟩ := z; exact z.elim⟩
  | n + 1, f, d, hd, fa, fd, F => by
    obtain ⟨O, -⟩ := h.fn f d hd
    obtain ⟨oc, od, dV, kV, doc, pm, an, cdv, ct, osl, rfl, lk, hcd⟩ := F.ex
    have npl : (d.N.take d.fn.np).length = d.fn.np := by rw [List.length_take]; have := O.np; omega
    refine fn_of lk hcd O.sc (fun vs H Q E z => by rw [npl]; exact spC_len hd z) fun A outer s H vs Q E hr z => ?_
    have site : SiteS RX T.ctx (evCall T.ctx n) (T.nm d (st f)) (cxOf (L2.CX P w) P w K mg base d.N d.name (defScope (st f)) fa cdv A outer s H E) (fun c d _ H => E c d H) E := by
      refine { sc := rfl, nN := rfl, nd := O.sc.nd, calm := rfl, fs := fun _ _ => rfl, tk := takes_of rfl rfl rfl rfl, bt := h.bt, gl := fun j dd e => ?_, un := ?_, fn := fun g x np nd e => ?_, bk := ?_, po := passes_of rfl, hE := fun _ _ _ _ z => z }
      · have e : (T.gl.map (·.2))[j]? = some dd := e
        rw [List.getElem?_map] at e
        cases e2 : T.gl[j]? with
        | none => rw [e2] at e; cases e
        | some q =>
          rw [e2] at e
          cases e
          have e3 : nmOf (T.gl.map (·.1)) j = q.1 := by
            unfold nmOf
            rw [List.getD_eq_getElem?_getD, List.getElem?_map, e2]
            rfl
          show ∃ v u, mg (nmOf (T.gl.map (·.1)) j) = some u ∧ _
          rw [e3]
          exact h.gl j q.1 q.2 e2
      · have := hr.un
        show (A.deeper _).units + 100 < cLine
        omega
      · have e : (T.fds.map FD.sig)[g]? = some (x, np, nd) := e
        rw [List.getElem?_map] at e
        cases e2 : T.fds[g]? with
        | none => rw [e2] at e; cases e
        | some d' =>
          rw [e2] at e
          cases e
          obtain ⟨-, fa', fd', F'⟩ := h.fn g d' e2
          refine ⟨d'.fn, fa', fd', _, n, ?_, rfl, rfl, F'.mg, F'.kp, fn_all h n g d' e2 fa' fd' F', hr, F'.bd⟩
          show (T.fds.map (·.fn))[g]? = _
          rw [List.getElem?_map, e2]
          rfl
      · show (if (defScope (st f)).kind.isAnnotationScope then ScopeKind.function else (defScope (st f)).kind) = .function
        rw [O.sc.kind]
        rfl
    have hb := sSs d.fn.body _ _ _ _ site O.ok
    rw [O.body] at hb
    refine ⟨_, hb, ?_⟩
    obtain ⟨ds, μ, S, t, r, z⟩ := z
    rw [evCall] at z
    obtain ⟨F2, eF, z⟩ := z.opt
    have e1 : F2 = d.fn := by
      have : (T.fds.map (·.fn))[f]? = some F2 := eF
      rw [List.getElem?_map, hd] at this
      exact (Option.some.inj this).symm
    subst e1
    split at z
    · refine ⟨_, μ, S, t, start_re r O.ns, (Out.bind .refl z).imp fun fl S1 H1 μ1 s1 t1 ⟨_, _, _, h1⟩ => ?_⟩
      cases fl with
      | nx ρ =>
        intro σ _
        obtain ⟨r', S', μ', st', t', hr', q⟩ := fin_of (r := .v .non) (v := .non) t s1 t1 .non h1
        exact q _ hr'
      | rt r =>
        intro v hv
        obtain ⟨r', S', μ', st', t', hr', q⟩ := fin_of t s1 t1 hv h1
        exact q _ hr'
      | bk ρ => exact h1.elim
      | ct ρ => exact h1.elim
    · exact z.elim
end
end Q
end
section
-- Snd19
set_option Elab.async false
set_option linter.all false
set_option maxRecDepth 100000
set_option maxHeartbeats 4000000
namespace Q
open PySem PySem.Spec PyProof.Rows L2
def RX0 : RXT := fun _ _ _ _ _ _ => False
theorem script_sp {C : Ctx} {n f : Nat} {K : PySem.W.Frag} {H : Hp} {a : Addr} {ns : List Int} {S' : Store} (ho : Only H) (hs : SqL K H a (ns.map L2.V.int)) (e : evCall C n f [.fl (ns.map D.int)] [] = .ok (.v (.bl true)) S') :
    spC RX0 K (evCall C n) f [.ref a] H (fun v _ => v = .bl true) fun _ _ _ => False := by
  have rs : ∀ (l : List Int) (H : Hp) μ, RDs K H μ (l.map D.int) (l.map L2.V.int) := fun l H μ => by
    induction l with
    | nil => exact .nil
    | cons i r ih => exact .cons (.int i) ih
  refine ⟨_, [], [], ⟨rfl, List.nodup_nil, fun n c a h => by simp at h⟩, .cons (.fl (vs := ns.map L2.V.int) ?_ (rs ns H [])) .nil, ?_⟩
  · rcases hs with (hs | ⟨o, hs⟩) | hs
    · rcases ho a with z | ⟨o, xs, z⟩
      · rw [hs] at z; cases z
      · rw [hs] at z; cases z
    · exact .inl (.inl ⟨o, hs⟩)
    · exact .inr hs
  · rw [e]
    intro H' μ' _ _ v hv
    exact rd_bl hv
def scOk (N P : List Str) (sc : Scope) : Bool :=
  decide (sc.kind = .function) && (!sc.isCoroutine && (!sc.isGenerator && (decide N.Nodup && (decide (N.take P.length = P) && (P.all (fun x => sc.names.lookup x == some .local || sc.names.lookup x == some .cell) && sc.names.all (fun y => !(y.2 == .free)))))))
theorem sc_by {N P : List Str} {sc : Scope} (h : scOk N P sc = true) : FnScope N P sc := by
  unfold scOk at h
  obtain ⟨h1, h⟩ := and2 h
  obtain ⟨h2, h⟩ := and2 h
  obtain ⟨h3, h⟩ := and2 h
  obtain ⟨h4, h⟩ := and2 h
  obtain ⟨h5, h⟩ := and2 h
  obtain ⟨h6, h7⟩ := and2 h
  refine ⟨of_decide_eq_true h1, by simpa using h2, by simpa using h3, of_decide_eq_true h4, of_decide_eq_true h5, fun x hx => ?_, fun y hy => ?_⟩
  · have := List.all_eq_true.mp h6 x hx
    rw [Bool.or_eq_true] at this
    exact this.elim (fun z => .inl (eq_of_beq z)) fun z => .inr (eq_of_beq z)
  · have := List.all_eq_true.mp h7 y hy
    intro z
    rw [z] at this
    cases this
def topS (P : Program) (i : Nat) : Stmt := P.main.body.getD i (.Pass ⟨0, 0, 0, 0⟩)
def FAll (T : Tab) (K : PySem.W.Frag) (mg : Str → Option Value) (st : Nat → Stmt) : Nat → List FD → Prop
  | _, [] => True
  | i, d :: r => (FOk T d (st i) ∧ ∃ fa fd, FAt K mg d (st i) fa fd) ∧ FAll T K mg st (i + 1) r
theorem FAll.get {T : Tab} {K : PySem.W.Frag} {mg : Str → Option Value} {st : Nat → Stmt} : ∀ {l : List FD} {i : Nat}, FAll T K mg st i l → ∀ f d, l[f]? = some d → FOk T d (st (i + f)) ∧ ∃ fa fd, FAt K mg d (st (i + f)) fa fd
  | [], _, _, f, d, e => by simp at e
  | d0 :: r, i, h, 0, d, e => by
    simp at e
    subst e
    exact h.1
  | d0 :: r, i, h, f + 1, d, e => by
    have := FAll.get h.2 f d (by simpa using e)
    rw [show i + (f + 1) = i + 1 + f by omega]
    exact this
def GAll (K : PySem.W.Frag) (mg : Str → Option Value) : List (Str × D) → Prop
  | [] => True
  | q :: r => (∃ v u, mg q.1 = some u ∧ RelV v u ∧ ∀ H μ, RD K H μ q.2 v) ∧ GAll K mg r
theorem GAll.get {K : PySem.W.Frag} {mg : Str → Option Value} : ∀ {l : List (Str × D)}, GAll K mg l → ∀ (j : Nat) x d, l[j]? = some (x, d) → ∃ v u, mg x = some u ∧ RelV v u ∧ ∀ H μ, RD K H μ d v
  | [], _, j, x, d, e => by simp at e
  | q :: r, h, 0, x, d, e => by
    simp at e
    subst e
    exact h.1
  | q :: r, h, j + 1, x, d, e => GAll.get h.2 j x d (by simpa using e)
def BAll (mg : Str → Option Value) : List Str → Prop
  | [] => True
  | x :: r => mg x = none ∧ BAll mg r
theorem BAll.get {mg : Str → Option Value} : ∀ {l : List Str}, BAll mg l → ∀ x ∈ l, mg x = none
  | [], _, x, e => by cases e
  | y :: r, h, x, e => by
    rcases List.mem_cons.mp e with z | z
    · subst z; exact h.1
    · exact BAll.get h.2 x z
theorem tok_of {T : Tab} {K : PySem.W.Frag} {mg : Str → Option Value} {st : Nat → Stmt} (h1 : FAll T K mg st 0 T.fds) (h2 : GAll K mg T.gl) (h3 : BAll mg bnames) : TOk T K mg st :=
  ⟨fun f d e => by have := h1.get f d e; rwa [Nat.zero_add] at this, h2.get, h3.get⟩
section
variable {K : PySem.W.Frag} {h : Heap} {mg : Str → Option Value}
theorem fat_mk (X : K.In h) (G : h.Ns mainGlobals mg) {d : FD} {x : Str} {st : Stmt} {f : Addr} {oc : Value} {od an : Option Addr} {osl : Array (Option Value)} {kV doc pm cdv ct : Value} (hx : d.name = x)
    (a : PySem.W.nsIn K mainGlobals x = some (some (.ref f))) (l : K.lookup f = some ⟨oc, od, .func (PySem.W.fnOf x x (defArgs st) (defBody st) (defScope st) .none kV doc pm an cdv ct), osl⟩)
    (c : PySem.W.codeIn K cdv x = true) (k : PySem.W.keepIn K (.ref f) = true) (hdf : d.fn.df = [])
    (b : ∀ (kV doc pm : Value) (an : Option Addr) (cdv ct : Value) (us : List Value), us.length = (d.N.take d.fn.np).length → bindArgs (PySem.W.fnOf x x (defArgs st) (defBody st) (defScope st) .none kV doc pm an cdv ct) ⟨us, []⟩ = pure ((d.N.take d.fn.np).zip us)) : ∃ fa fd, FAt K mg d st fa fd := by
  subst hx
  refine ⟨f, _, ⟨⟨oc, od, .none, kV, doc, pm, an, cdv, ct, osl, rfl, l, c⟩, PySem.W.mg_of X G a, k, fun n h1 h2 => ⟨[], [], .all (b kV doc pm an cdv ct), .nil, fun H μ => ?_⟩⟩⟩
  rw [hdf, List.drop_nil]
  exact .nil
/-- n values are given, j of the defaults among them -/
def BD (d : FD) (x : Str) (st : Stmt) (j : Nat) : Prop := ∀ (T : Addr) (kV doc pm : Value) (an : Option Addr) (cdv ct : Value) (us its : List Value), us.length = d.fn.np - d.fn.df.length + j → its.length = d.fn.df.length →
  ∃ k, bindArgs (PySem.W.fnOf x x (defArgs st) (defBody st) (defScope st) (.ref T) kV doc pm an cdv ct) ⟨us, []⟩ = seqItems? (.ref T) >>= k ∧ k (some its.toArray) = pure ((d.N.take d.fn.np).zip (us ++ its.drop j))
theorem fat_mkD (X : K.In h) (G : h.Ns mainGlobals mg) {d : FD} {x : Str} {st : Stmt} {f T : Addr} {oc : Value} {od an dd : Option Addr} {osl sl : Array (Option Value)} {kV doc pm cdv ct : Value} {its : Array Value} {n0 : Nat} {is : List Int} (hx : d.name = x)
    (a : PySem.W.nsIn K mainGlobals x = some (some (.ref f))) (l : K.lookup f = some ⟨oc, od, .func (PySem.W.fnOf x x (defArgs st) (defBody st) (defScope st) (.ref T) kV doc pm an cdv ct), osl⟩)
    (c : PySem.W.codeIn K cdv x = true) (k : PySem.W.keepIn K (.ref f) = true) (lT : K.lookup T = some ⟨.type "tuple", dd, .seq its n0, sl⟩) (hdf : d.fn.df = is.map D.int) (hv : IntsAre its.toList is) (hnp : d.fn.df.length ≤ d.fn.np) (hN : d.fn.np ≤ d.N.length)
    (b : ∀ j, j ≤ d.fn.df.length → BD d x st j) : ∃ fa fd, FAt K mg d st fa fd := by
  subst hx
  refine ⟨f, _, ⟨⟨oc, od, .ref T, kV, doc, pm, an, cdv, ct, osl, rfl, l, c⟩, PySem.W.mg_of X G a, k, fun n h1 h2 => ?_⟩⟩
  have rs : ∀ (l : List Int) (H : Hp) μ, RDs K H μ (l.map D.int) (l.map L2.V.int) := fun l H μ => by
    induction l with
    | nil => exact .nil
    | cons i r ih => exact .cons (.int i) ih
  have hvl := vals_ints hv
  have e0 : d.fn.df.length - (d.fn.np - n) = d.fn.df.length - (d.fn.np - n) := rfl
  have hl : its.toList.length = d.fn.df.length := by rw [hdf, List.length_map, ← hv.length]
  refine ⟨its.toList.drop (d.fn.df.length - (d.fn.np - n)), (is.map L2.V.int).drop (d.fn.df.length - (d.fn.np - n)), fun s us KX hlen => ?_, hvl.drop _, fun H μ => ?_⟩
  · have hu : us.length = d.fn.np - d.fn.df.length + (d.fn.df.length - (d.fn.np - n)) := by
      rw [List.length_append, List.length_drop, hl, List.length_take] at hlen
      omega
    obtain ⟨k', e1, e2⟩ := b (d.fn.df.length - (d.fn.np - n)) (by omega) T kV doc pm an cdv ct us its.toList hu hl
    refine BindsTo.of_looks fun M => ?_
    rw [e1]
    exact looks_items KX lT rfl (by
      have : its.toList.toArray = its := by simp
      rw [this] at e2
      exact .of_pure e2)
  · rw [hdf]
    exact (rs is H μ).drop _
theorem law_at (X : K.In h) (G : h.Ns mainGlobals mg) {d : FD} {x y : Str} {st : Stmt} {f fa : Addr} {oc : Value} {od an : Option Addr} {osl : Array (Option Value)} {kV doc pm cdv ct : Value} (hm : mg x = some (.ref fa)) (hx : d.name = x)
    (a : PySem.W.nsIn K mainGlobals x = some (some (.ref f))) (l : K.lookup f = some ⟨oc, od, .func (PySem.W.fnOf x x (defArgs st) (defBody st) (defScope st) .none kV doc pm an cdv ct), osl⟩)
    (c : PySem.W.codeIn K cdv x = true) (k : PySem.W.keepIn K (.ref f) = true) (hdf : d.fn.df = [])
    (b : ∀ (kV doc pm : Value) (an : Option Addr) (cdv ct : Value) (us : List Value), us.length = (d.N.take d.fn.np).length → bindArgs (PySem.W.fnOf x x (defArgs st) (defBody st) (defScope st) .none kV doc pm an cdv ct) ⟨us, []⟩ = pure ((d.N.take d.fn.np).zip us)) (hy : d.N.take d.fn.np = [y]) :
    ∃ fd, FAt K mg d st fa fd ∧ ∀ (s : Shared) (v : Value), BindsTo s fd ⟨[v], []⟩ [(y, v)] := by
  subst hx
  have e := (PySem.W.mg_of X G a).symm.trans hm
  cases e
  refine ⟨_, ⟨⟨oc, od, .none, kV, doc, pm, an, cdv, ct, osl, rfl, l, c⟩, PySem.W.mg_of X G a, k, fun n h1 h2 => ⟨[], [], .all (b kV doc pm an cdv ct), .nil, fun H μ => ?_⟩⟩, fun s v => .of_eq ?_⟩
  · rw [hdf, List.drop_nil]
    exact .nil
  · rw [b kV doc pm an cdv ct [v] (by rw [hy]; rfl), hy]
    rfl
theorem g_tup (X : K.In h) (G : h.Ns mainGlobals mg) {x : Str} {p : Addr} {dd : Option Addr} {its : Array Value} {n : Nat} {sl : Array (Option Value)} {is : List Int} (a : PySem.W.nsIn K mainGlobals x = some (some (.ref p)))
    (l : K.lookup p = some ⟨.type "tuple", dd, .seq its n, sl⟩) (hz : its.size ≤ 100) (hv : IntsAre its.toList is) : ∃ v u, mg x = some u ∧ RelV v u ∧ ∀ H μ, RD K H μ (.tup (is.map D.int)) v := by
  have rs : ∀ (l : List Int) (H : Hp) μ, RDs K H μ (l.map D.int) (l.map L2.V.int) := fun l H μ => by
    induction l with
    | nil => exact .nil
    | cons i r ih => exact .cons (.int i) ih
  exact ⟨.ref p, .ref p, PySem.W.mg_of X G a, rfl, fun H μ => .tup (.inr ⟨_, its, n, l, rfl, rfl, by rw [sizeLine_eq]; omega, vals_ints hv⟩) (rs is H μ)⟩
theorem g_int (X : K.In h) (G : h.Ns mainGlobals mg) {x : Str} {i : Int} {t : Tok} (a : PySem.W.nsIn K mainGlobals x = some (some (.int i t))) : ∃ v u, mg x = some u ∧ RelV v u ∧ ∀ H μ, RD K H μ (.int i) v :=
  ⟨.int i, .int i t, PySem.W.mg_of X G a, ⟨t, rfl⟩, fun H μ => .int i⟩
theorem g_str (X : K.In h) (G : h.Ns mainGlobals mg) {x y : Str} {t : Tok} (a : PySem.W.nsIn K mainGlobals x = some (some (.str y t))) : ∃ v u, mg x = some u ∧ RelV v u ∧ ∀ H μ, RD K H μ (.str y) v :=
  ⟨.str y, .str y t, PySem.W.mg_of X G a, ⟨t, rfl⟩, fun H μ => .str y⟩
end
theorem cx_no {P : Program} {w : World} {l : List PySem.Env} {H : Hp} {s : Shared} {e : Value} {s' : Shared} (h : L2.CX P w l H s (fun _ _ _ => False) e s') : False := by
  obtain ⟨_, _, _, _, _, _, _, _, _, _, _, _, z⟩ := h
  exact z.elim
theorem law_fn {P : Program} {w : World} {K : PySem.W.Frag} {mg : Str → Option Value} {T : Tab} {st : Nat → Stmt} {f n : Nat} {d : FD} {fa : Addr} {fd : FuncData} {x : Str} (tok : TOk T K mg st) (hd : T.fds[f]? = some d) (F : FAt K mg d (st f) fa fd) (hx : d.N.take d.fn.np = [x]) (base : Heap) :
    FnOk P w K mg base (L2.CX P w) n fa fd [x] (spC RX0 K (evCall T.ctx n) f) := hx ▸ fn_all tok n f d hd fa fd F
def lawIx (T : Tab) : Nat := T.fds.length - 1
end Q
end
section
-- M1
set_option Elab.async false
set_option linter.all false
set_option maxRecDepth 100000
namespace Q
open PySem (Str Operator CmpOp BoolOp)

theorem fin_same (r : R) (S : Store) : fin S.length r S = .ok r S := by
  unfold fin
  rw [if_pos (Nat.ble_eq.mpr (Nat.le_refl _))]
theorem ev_call {C : Q.Ctx} {n f : Nat} {F : Fn} {ds : List D} {S : Store} (h : C.fns[f]? = some F) (hl : ds.length = F.np) : evCall C (n + 1) f ds S = (evSs C (evCall C n) F.body (start F ds) S).bind fun fl S' => match fl with
    | .rt r => fin S.length r S'
    | .nx _ => fin S.length (.v .non) S'
    | _ => .bad := by
  rw [evCall, h]
  show (if (ds.length == F.np) = true then _ else _) = _
  rw [if_pos (by rw [hl]; exact beq_self_eq_true _)] <;> congr 1
/-- a call that hands back r and leaves the store -/
theorem ev_pure {C : Q.Ctx} {n f : Nat} {F : Fn} {ds : List D} {S : Store} {r : R} (h : C.fns[f]? = some F) (hl : ds.length = F.np) (e : evSs C (evCall C n) F.body (start F ds) S = .ok (.rt r) S) : evCall C (n + 1) f ds S = .ok r S := by
  rw [ev_call h hl, e]
  exact fin_same r S
theorem ev_none {C : Q.Ctx} {n f : Nat} {F : Fn} {ds : List D} {S : Store} {ρ : Env} (h : C.fns[f]? = some F) (hl : ds.length = F.np) (e : evSs C (evCall C n) F.body (start F ds) S = .ok (.nx ρ) S) : evCall C (n + 1) f ds S = .ok (.v .non) S := by
  rw [ev_call h hl, e]
  exact fin_same _ S
/-! ### rows for simp -/
section
variable (S : Store) (b b' : Bool) (i j : Int) (x y : Str) (ds es : List D) (d e : D)
@[simp] theorem truth_bl : truth S (.v (.bl b)) = some b := rfl
@[simp] theorem truth_int : truth S (.v (.int i)) = some (i != 0) := rfl
@[simp] theorem truth_non : truth S (.v .non) = some false := rfl
@[simp] theorem truth_tup : truth S (.v (.tup ds)) = some (!ds.isEmpty) := rfl
@[simp] theorem truth_t : truth S (.t ds) = some (!ds.isEmpty) := rfl
@[simp] theorem settle_v {α : Type} (f : D → Store → Res α) : Q.settle (.v d) S f = f d S := rfl
@[simp] theorem settle_t {α : Type} (f : D → Store → Res α) : Q.settle (.t ds) S f = f (.ref S.length) (S ++ [.lst ds]) := rfl
@[simp] theorem add_int : evBin .Add S (.v (.int i)) (.v (.int j)) = .ok (.v (.int (i + j))) S := rfl
@[simp] theorem sub_int : evBin .Sub S (.v (.int i)) (.v (.int j)) = .ok (.v (.int (i - j))) S := rfl
theorem mul_int (h : mulOk i j = true) : evBin .Mult S (.v (.int i)) (.v (.int j)) = .ok (.v (.int (i * j))) S := by
  show (if mulOk i j = true then _ else _) = _
  rw [if_pos h]
theorem div_int (h : divOk j = true) : evBin .FloorDiv S (.v (.int i)) (.v (.int j)) = .ok (.v (.int (i.fdiv j))) S := by
  show (if divOk j = true then _ else _) = _
  rw [if_pos h]
theorem mod_int (h : j ≠ 0) : evBin .Mod S (.v (.int i)) (.v (.int j)) = .ok (.v (.int (i.fmod j))) S := by
  show (if (j == 0) = true then _ else _) = _
  rw [if_neg (by simpa using h)]
@[simp] theorem lt_int : evCmp .Lt S (.v (.int i)) (.v (.int j)) = some (decide (i < j)) := rfl
@[simp] theorem le_int : evCmp .LtE S (.v (.int i)) (.v (.int j)) = some (decide (i ≤ j)) := rfl
@[simp] theorem gt_int : evCmp .Gt S (.v (.int i)) (.v (.int j)) = some (decide (j < i)) := rfl
@[simp] theorem ge_int : evCmp .GtE S (.v (.int i)) (.v (.int j)) = some (decide (j ≤ i)) := rfl
@[simp] theorem is_bl : evCmp .Is S (.v (.bl b)) (.v (.bl b')) = some (b == b') := rfl
@[simp] theorem isnot_bl : evCmp .IsNot S (.v (.bl b)) (.v (.bl b')) = some (!(b == b')) := rfl
@[simp] theorem abs_int : evBi1 .abs S (.v (.int i)) = .ok (.v (.int (if i < 0 then -i else i))) S := rfl
@[simp] theorem len_tup : evBi1 .len S (.v (.tup ds)) = .ok (.v (.int ds.length)) S := rfl
@[simp] theorem len_t : evBi1 .len S (.t ds) = .ok (.v (.int ds.length)) S := rfl
@[simp] theorem len_fl : evBi1 .len S (.v (.fl ds)) = .ok (.v (.int ds.length)) S := rfl
@[simp] theorem tuple_t : evBi1 .tuple S (.t ds) = .ok (.v (.tup ds)) S := rfl
@[simp] theorem tuple_tup : evBi1 .tuple S (.v (.tup ds)) = .ok (.v (.tup ds)) S := rfl
@[simp] theorem list_tup : evBi1 .list S (.v (.tup ds)) = .ok (.t ds) S := rfl
@[simp] theorem ix_tup : getItem S (.v (.tup ds)) (.v (.int i)) = atD ds i := rfl
@[simp] theorem ix_fl : getItem S (.v (.fl ds)) (.v (.int i)) = atD ds i := rfl
@[simp] theorem ix_t : getItem S (.t ds) (.v (.int i)) = atD ds i := rfl
@[simp] theorem at0 : atD (d :: ds) 0 = some d := by
  show (L2.ixN (ds.length + 1) 0).bind _ = _
  unfold L2.ixN
  simp
@[simp] theorem at1 : atD (d :: e :: ds) 1 = some e := by
  show (L2.ixN (ds.length + 1 + 1) 1).bind _ = _
  unfold L2.ixN
  have h : (1 : Int) < (ds.length : Int) + 1 + 1 := by omega
  simp [h]
theorem slot0 (o : Option D) (r : Env) : (o :: r)[0]? = some o := rfl
theorem slotS (o : Option D) (r : Env) (n : Nat) : (o :: r)[n + 1]? = r[n]? := rfl
end
/-! ### the evaluator, node by node (not comprehensions, not loops) -/
section
variable (C : Q.Ctx) (call : Nat → List D → Store → Res R) (ρ : Env) (S : Store)
@[simp] theorem e_non : evE C call .non ρ S = .ok (.v .non) S := by rw [evE]
@[simp] theorem e_bl (b : Bool) : evE C call (.bl b) ρ S = .ok (.v (.bl b)) S := by rw [evE]
@[simp] theorem e_int (i : Int) : evE C call (.int i) ρ S = .ok (.v (.int i)) S := by rw [evE]
@[simp] theorem e_str (x : Str) : evE C call (.str x) ρ S = .ok (.v (.str x)) S := by rw [evE]
@[simp] theorem e_var (i : Nat) : evE C call (.var i) ρ S = match ρ[i]? with | some (some d) => .ok (.v d) S | _ => .bad := by
  rw [evE] <;> rfl
@[simp] theorem e_glb (j : Nat) : evE C call (.glb j) ρ S = Q.opt C.glb[j]? fun d => .ok (.v d) S := by rw [evE]
@[simp] theorem e_tup (es : Es) : evE C call (.tup es) ρ S = (evEs C call es ρ S).bind fun ds S => .ok (.v (.tup ds)) S := by rw [evE]
@[simp] theorem e_lst (es : Es) : evE C call (.lst es) ρ S = (evEs C call es ρ S).bind fun ds S => .ok (.t ds) S := by rw [evE]
@[simp] theorem e_bin (o : Operator) (a b : E) : evE C call (.bin o a b) ρ S = (evE C call a ρ S).bind fun x S => (evE C call b ρ S).bind fun y S => evBin o S x y := by rw [evE]
@[simp] theorem e_not (a : E) : evE C call (.not a) ρ S = (evE C call a ρ S).bind fun x S => Q.opt (truth S x) fun b => .ok (.v (.bl (!b))) S := by rw [evE]
@[simp] theorem e_neg (a : E) : evE C call (.neg a) ρ S = (evE C call a ρ S).bind fun x S => match x with | .v (.int i) => .ok (.v (.int (-i))) S | _ => .bad := by
  rw [evE] <;> rfl
@[simp] theorem e_cmp (o : CmpOp) (a b : E) : evE C call (.cmp o a b) ρ S = (evE C call a ρ S).bind fun x S => (evE C call b ρ S).bind fun y S => Q.opt (evCmp o S x y) fun c => .ok (.v (.bl c)) S := by rw [evE]
@[simp] theorem e_chn (o o' : CmpOp) (a b c : E) : evE C call (.chn o o' a b c) ρ S = (evE C call a ρ S).bind fun x S => (evE C call b ρ S).bind fun y S => Q.opt (evCmp o S x y) fun k =>
      if k then (evE C call c ρ S).bind fun z S => Q.opt (evCmp o' S y z) fun k => .ok (.v (.bl k)) S else .ok (.v (.bl false)) S := by rw [evE]
@[simp] theorem e_bop (o : BoolOp) (es : Es) : evE C call (.bop o es) ρ S = evBop C call o es ρ S := by rw [evE]
@[simp] theorem e_ife (c a b : E) : evE C call (.ife c a b) ρ S = (evE C call c ρ S).bind fun x S => Q.opt (truth S x) fun k => if k then evE C call a ρ S else evE C call b ρ S := by rw [evE]
@[simp] theorem e_idx (a i : E) : evE C call (.idx a i) ρ S = (evE C call a ρ S).bind fun x S => (evE C call i ρ S).bind fun y S => Q.opt (getItem S x y) fun d => .ok (.v d) S := by rw [evE]
@[simp] theorem e_slc (a : E) (lo hi : Eo) : evE C call (.slc a lo hi) ρ S = (evE C call a ρ S).bind fun x S => (evB C call lo ρ S).bind fun l S => (evB C call hi ρ S).bind fun h S => getSlice S x l h := by rw [evE]
@[simp] theorem e_rev (a : E) : evE C call (.rev a) ρ S = (evE C call a ρ S).bind fun x S => getRev S x := by rw [evE]
@[simp] theorem e_call (f : Nat) (es : Es) : evE C call (.call f es) ρ S = (evEs C call es ρ S).bind fun ds S => Q.opt (Q.fill C f ds) fun ds => call f ds S := by rw [evE]
@[simp] theorem e_bi1 (b : Bi1) (a : E) : evE C call (.bi1 b a) ρ S = (evE C call a ρ S).bind fun x S => evBi1 b S x := by rw [evE]
@[simp] theorem e_bi2 (b : Bi2) (a c : E) : evE C call (.bi2 b a c) ρ S = (evE C call a ρ S).bind fun x S => (evE C call c ρ S).bind fun y S => evBi2 b S x y := by rw [evE]
@[simp] theorem e_isi (a : E) (t : Ty) : evE C call (.isi a t) ρ S = (evE C call a ρ S).bind fun x S => Q.opt (tyIs S x t) fun b => .ok (.v (.bl b)) S := by rw [evE]
@[simp] theorem e_isiT (a : E) (ts : List Ty) : evE C call (.isiT a ts) ρ S = (evE C call a ρ S).bind fun x S => Q.opt (ts.mapM (tyIs S x)) fun bs => .ok (.v (.bl (bs.any id))) S := by rw [evE]
@[simp] theorem e_dct0 : evE C call .dct0 ρ S = .ok (.v (.ref S.length)) (S ++ [.dct []]) := by rw [evE]
@[simp] theorem s_asg (t : T) (e : E) : evS C call (.asg t e) ρ S = (evE C call e ρ S).bind fun x S => Q.settle x S fun d S => (calm (asT C call t d ρ S)).bind fun ρ S => .ok (.nx ρ) S := by rw [evS]
@[simp] theorem s_par2 (i j : Nat) (a b : E) : evS C call (.par2 i j a b) ρ S = (evE C call a ρ S).bind fun x S => Q.settle x S fun x S => (evE C call b ρ S).bind fun y S => Q.settle y S fun y S =>
      .ok (.nx ((ρ.set i (some x)).set j (some y))) S := by rw [evS]
@[simp] theorem s_par3 (i j k : Nat) (a b c : E) : evS C call (.par3 i j k a b c) ρ S = (evE C call a ρ S).bind fun x S => Q.settle x S fun x S => (evE C call b ρ S).bind fun y S => Q.settle y S fun y S =>
      (evE C call c ρ S).bind fun z S => Q.settle z S fun z S => .ok (.nx (((ρ.set i (some x)).set j (some y)).set k (some z))) S := by rw [evS]
@[simp] theorem s_expr (e : E) : evS C call (.expr e) ρ S = (evE C call e ρ S).bind fun _ S => .ok (.nx ρ) S := by rw [evS]
@[simp] theorem s_ife (c : E) (a b : Ss) : evS C call (.ife c a b) ρ S = (evE C call c ρ S).bind fun x S => Q.opt (truth S x) fun k => if k then evSs C call a ρ S else evSs C call b ρ S := by rw [evS]
@[simp] theorem s_ret (e : E) : evS C call (.ret e) ρ S = (evE C call e ρ S).bind fun x S => .ok (.rt x) S := by rw [evS]
@[simp] theorem s_ret0 : evS C call .ret0 ρ S = .ok (.rt (.v .non)) S := by rw [evS]
@[simp] theorem s_pass : evS C call .pass ρ S = .ok (.nx ρ) S := by rw [evS]
@[simp] theorem s_brk : evS C call .brk ρ S = .ok (.bk ρ) S := by rw [evS]
@[simp] theorem s_cont : evS C call .cont ρ S = .ok (.ct ρ) S := by rw [evS]
end
section
variable (C : Q.Ctx) (call : Nat → List D → Store → Res R) (ρ : Env) (S : Store)
@[simp] theorem es_nil : evEs C call .nil ρ S = .ok [] S := by rw [evEs]
@[simp] theorem es_cons (e : E) (r : Es) : evEs C call (.cons e r) ρ S = (evE C call e ρ S).bind fun x S => Q.settle x S fun d S => (evEs C call r ρ S).bind fun ds S => .ok (d :: ds) S := by rw [evEs]
@[simp] theorem bop_one (o : BoolOp) (e : E) : evBop C call o (.cons e .nil) ρ S = evE C call e ρ S := by rw [evBop]
@[simp] theorem bop_two (o : BoolOp) (e e' : E) (r : Es) : evBop C call o (.cons e (.cons e' r)) ρ S = (evE C call e ρ S).bind fun x S => Q.opt (truth S x) fun k => match o with
    | .And => if k then evBop C call o (.cons e' r) ρ S else .ok x S
    | .Or => if k then .ok x S else evBop C call o (.cons e' r) ρ S := by rw [evBop] <;> rfl
@[simp] theorem eb_no : evB C call .no ρ S = .ok none S := by rw [evB]
@[simp] theorem eb_so (e : E) : evB C call (.so e) ρ S = (evE C call e ρ S).bind fun x S => match x with | .v (.int i) => .ok (some i) S | _ => .bad := by
  rw [evB] <;> rfl
@[simp] theorem ec_no : evC C call .no ρ S = .ok true S := by rw [evC]
@[simp] theorem ec_so (e : E) : evC C call (.so e) ρ S = (evE C call e ρ S).bind fun x S => Q.opt (truth S x) fun k => .ok k S := by rw [evC]
@[simp] theorem ss_nil : evSs C call .nil ρ S = .ok (.nx ρ) S := by rw [evSs]
@[simp] theorem ss_cons (s : Q.S) (r : Ss) : evSs C call (.cons s r) ρ S = (evS C call s ρ S).bind fun fl S => match fl with | .nx ρ => evSs C call r ρ S | fl => .ok fl S := by
  rw [evSs] <;> rfl
@[simp] theorem as_nm (i : Nat) (d : D) : asT C call (.nm i) d ρ S = .ok (ρ.set i (some d)) S := by rw [asT]
@[simp] theorem as_tp (ts : Ts) (d : D) : asT C call (.tp ts) d ρ S = Q.opt (tupOf ts.len d) fun ds => asTs C call ts ds ρ S := by rw [asT]
@[simp] theorem as_sb (o i : E) (d : D) : asT C call (.sb o i) d ρ S = (evE C call o ρ S).bind fun x S => (evE C call i ρ S).bind fun y S => match x, y with
    | .v (.ref n), .v (.int k) => match S[n]? with
      | some (.lst ds) => Q.opt (ixD ds.length k) fun j => .ok ρ (S.set n (.lst (ds.set j d)))
      | _ => .bad
    | _, _ => .bad := by
  rw [asT] <;> rfl
@[simp] theorem as_nil (ds : List D) : asTs C call .nil ds ρ S = if ds.isEmpty then .ok ρ S else .bad := by rw [asTs]
@[simp] theorem as_cons (t : T) (r : Ts) (ds : List D) : asTs C call (.cons t r) ds ρ S = Q.opt (uncons ds) fun p => (asT C call t p.1 ρ S).bind fun ρ S => asTs C call r p.2 ρ S := by rw [asTs]
@[simp] theorem tru_bnd (f : Res R) : tru f = f.bind fun x S => Q.opt (truth S x) fun k => .ok k S := rfl
end
end Q
end
section
-- M2
set_option Elab.async false
set_option linter.all false
set_option maxRecDepth 100000
namespace Q
open PySem (Str Operator CmpOp BoolOp)
/-! ### the greatest common divisor -/
def bGcd : Ss := (.cons (.par2 0 1 (.bi1 .abs (.var 0)) (.bi1 .abs (.var 1))) (.cons (.whl (.cmp .Gt (.var 1) (.int 0)) (.cons (.par2 0 1 (.var 1) (.bin .Mod (.var 0) (.var 1))) .nil)) (.cons (.ret (.var 0)) .nil)))
def fGcd : Fn := ⟨2, 2, [], bGcd⟩
theorem fmod_nat (a b : Nat) : (a : Int).fmod (b : Int) = ((a % b : Nat) : Int) := by
  rw [Int.fmod_eq_emod_of_nonneg _ (Int.natCast_nonneg b)]
  rfl
theorem abs_if (a : Int) : (if a < 0 then -a else a) = (a.natAbs : Int) := by
  split <;> omega
section
variable {C : Q.Ctx} {call : Nat → List D → Store → Res R} {S : Store}
theorem gcd_test (a b : Nat) : evE C call (.cmp .Gt (.var 1) (.int 0)) [some (.int a), some (.int b)] S = .ok (.v (.bl (decide (0 < (b : Int))))) S := by simp
theorem gcd_body (a b : Nat) (h : (b : Int) ≠ 0) : evSs C call (.cons (.par2 0 1 (.var 1) (.bin .Mod (.var 0) (.var 1))) .nil) [some (.int a), some (.int b)] S = .ok (.nx [some (.int b), some (.int ((a % b : Nat) : Int))]) S := by
  simp [mod_int S a b h, fmod_nat]
theorem whl_step {test : Env → Store → Res R} {body : Env → Store → Res Fl} {f : Nat} {ρ ρ' : Env} (h1 : test ρ S = .ok (.v (.bl true)) S) (h2 : body ρ S = .ok (.nx ρ') S) : evWhl test body (f + 1) ρ S = evWhl test body f ρ' S := by
  rw [evWhl, h1]
  simp only [Res.bind_ok, truth_bl, opt_some, if_true, h2]
theorem whl_end {test : Env → Store → Res R} {body : Env → Store → Res Fl} {f : Nat} {ρ : Env} (h1 : test ρ S = .ok (.v (.bl false)) S) : evWhl test body (f + 1) ρ S = .ok (.nx ρ) S := by
  rw [evWhl, h1]
  simp only [Res.bind_ok, truth_bl, opt_some, Bool.false_eq_true, if_false]
theorem gcd_loop : ∀ (f a b : Nat), b < f → evWhl (evE C call (.cmp .Gt (.var 1) (.int 0))) (evSs C call (.cons (.par2 0 1 (.var 1) (.bin .Mod (.var 0) (.var 1))) .nil)) f [some (.int a), some (.int b)] S = .ok (.nx [some (.int (Nat.gcd a b)), some (.int 0)]) S
  | 0, a, b, h => absurd h (Nat.not_lt_zero _)
  | f + 1, a, b, h => by
    by_cases hb : b = 0
    · subst hb
      rw [whl_end (by rw [gcd_test]; rfl), Nat.gcd_zero_right]
      rfl
    · rw [whl_step (by rw [gcd_test, decide_eq_true (by omega)]) (gcd_body a b (by omega)), gcd_loop f b (a % b) (by have := Nat.mod_lt a (Nat.pos_of_ne_zero hb); omega)]
      rw [Nat.gcd_comm b, ← Nat.gcd_rec, Nat.gcd_comm]
theorem gcd_spec {n i : Nat} (h : C.fns[i]? = some fGcd) (a b : Int) (hf : b.natAbs < C.fuel) : evCall C (n + 1) i [.int a, .int b] S = .ok (.v (.int (Int.gcd a b))) S := by
  refine ev_pure h rfl ?_
  show evSs C (evCall C n) bGcd [some (.int a), some (.int b)] S = _
  have e0 : evS C (evCall C n) (.par2 0 1 (.bi1 .abs (.var 0)) (.bi1 .abs (.var 1))) [some (.int a), some (.int b)] S = .ok (.nx [some (.int a.natAbs), some (.int b.natAbs)]) S := by simp [abs_if]
  rw [bGcd, evSs, e0]
  show (evSs C (evCall C n) _ _ S) = _
  rw [evSs, evS, gcd_loop _ _ _ hf]
  simp [Int.gcd]
end
end Q
end
section
-- M3
set_option Elab.async false
set_option linter.all false
set_option maxRecDepth 100000
namespace Q
open PySem (Str Operator CmpOp BoolOp)
/-! ### sizes -/
def Lt (k : Nat) (i : Int) : Prop := i.natAbs < 2 ^ k
theorem Lt.mono {k l : Nat} {i : Int} (h : Lt k i) (e : k ≤ l) : Lt l i := Nat.lt_of_lt_of_le h (Nat.pow_le_pow_right (by decide) e)
theorem Lt.mul {k l : Nat} {i j : Int} (h : Lt k i) (g : Lt l j) : Lt (k + l) (i * j) := by
  unfold Lt at *
  rw [Int.natAbs_mul, Nat.pow_add]
  exact Nat.mul_lt_mul'' h g
theorem Lt.add {k l : Nat} {i j : Int} (h : Lt k i) (g : Lt l j) : Lt (k + l + 1) (i + j) := by
  have h1 := h.mono (Nat.le_add_right k l)
  have h2 := g.mono (Nat.le_add_left l k)
  unfold Lt at *
  rw [Nat.pow_succ]
  omega
theorem Lt.neg {k : Nat} {i : Int} (h : Lt k i) : Lt k (-i) := by
  unfold Lt at *
  omega
theorem Lt.sub {k l : Nat} {i j : Int} (h : Lt k i) (g : Lt l j) : Lt (k + l + 1) (i - j) := by
  rw [Int.sub_eq_add_neg]
  exact h.add g.neg
theorem log2_le {k : Nat} {i : Int} (h : Lt k i) : i.natAbs.log2 < k ∨ i.natAbs.log2 = 0 := by
  by_cases z : i.natAbs = 0
  · rw [z]; exact .inr (by decide)
  · exact .inl ((Nat.log2_lt z).mpr h)
theorem mulOk_of {k l : Nat} {i j : Int} (h : Lt k i) (g : Lt l j) (e : k + l ≤ 1000000) : mulOk i j = true := by
  unfold mulOk
  rw [Nat.blt_eq]
  rcases log2_le h with a | a <;> rcases log2_le g with b | b <;> omega
theorem divOk_of {k : Nat} {j : Int} (h0 : j ≠ 0) (h : Lt k j) (e : k ≤ 9000) : divOk j = true := by
  unfold divOk
  rw [Bool.and_eq_true, Nat.blt_eq]
  refine ⟨?_, by simpa using h0⟩
  rcases log2_le h with a | a <;> omega
/-! ### numbers -/
def num (q : Rat) : D := .tup [.int q.num, .int q.den]
theorem num_div {a b : Int} (hb : 0 < b) : D.tup [.int (a.fdiv (Int.gcd a b)), .int (b.fdiv (Int.gcd a b))] = num (Rat.divInt a b) := by
  have hg : (0 : Int) ≤ (Int.gcd a b : Int) := Int.natCast_nonneg _
  have hb0 : b ≠ 0 := by omega
  unfold num
  rw [Rat.num_divInt, Rat.den_divInt, if_neg hb0, Int.sign_eq_one_of_pos hb, Int.one_mul, Int.gcd_comm b a, Int.fdiv_eq_ediv_of_nonneg _ hg, Int.fdiv_eq_ediv_of_nonneg _ hg]
  have : ((b.natAbs / a.gcd b : Nat) : Int) = b / (a.gcd b : Int) := by
    rw [Int.natCast_ediv]
    congr 1
    omega
  rw [this]
def bReduced (g : Nat) : Ss := (.cons (.ife (.cmp .Lt (.var 1) (.int 0)) (.cons (.par2 0 1 (.bin .Sub (.int 0) (.var 0)) (.bin .Sub (.int 0) (.var 1))) .nil) .nil) (.cons (.asg (.nm 2) (.call g (.cons (.var 0) (.cons (.var 1) .nil)))) (.cons (.ret (.tup (.cons (.bin .FloorDiv (.var 0) (.var 2)) (.cons (.bin .FloorDiv (.var 1) (.var 2)) .nil)))) .nil)))
def fReduced (g : Nat) : Fn := ⟨2, 3, [], bReduced g⟩
section
variable {C : Q.Ctx} {call : Nat → List D → Store → Res R} {S : Store}
theorem gcd_lt {k : Nat} {a b : Int} (hb : b ≠ 0) (h : Lt k b) : Lt k (Int.gcd a b) := by
  unfold Lt at *
  have : Int.gcd a b ≤ b.natAbs := Nat.le_of_dvd (by omega) (Nat.gcd_dvd_right _ _)
  simp only [Int.natAbs_natCast]
  omega
theorem fill_of {f : Nat} {F : Fn} {ds : List D} (h : C.fns[f]? = some F) (hl : ds.length = F.np) : fill C f ds = some ds := by
  unfold fill
  rw [h]
  dsimp only
  rw [hl, Nat.sub_self, Nat.sub_zero, List.drop_length, List.append_nil, if_pos]
  simp
structure Big (C : Q.Ctx) : Prop where
  fuel : ∀ b : Int, Lt 9000 b → b.natAbs < C.fuel
theorem reduced_spec (B : Big C) {n i g : Nat} (h : C.fns[i]? = some (fReduced g)) (hg : C.fns[g]? = some fGcd) (a b : Int) (hb : b ≠ 0) (hk : Lt 9000 b) : evCall C (n + 2) i [.int a, .int b] S = .ok (.v (num (Rat.divInt a b))) S := by
  refine ev_pure h rfl ?_
  show evSs C (evCall C (n + 1)) (bReduced g) [some (.int a), some (.int b), none] S = _
  have key : ∀ a b : Int, 0 < b → Lt 9000 b → evSs C (evCall C (n + 1)) (.cons (.asg (.nm 2) (.call g (.cons (.var 0) (.cons (.var 1) .nil)))) (.cons (.ret (.tup (.cons (.bin .FloorDiv (.var 0) (.var 2)) (.cons (.bin .FloorDiv (.var 1) (.var 2)) .nil)))) .nil)) [some (.int a), some (.int b), none] S = .ok (.rt (.v (num (Rat.divInt a b)))) S := fun a b hb hk => by
    have hg0 : (Int.gcd a b : Int) ≠ 0 := by
      have := Int.gcd_pos_of_ne_zero_right a (show b ≠ 0 by omega)
      omega
    have hd := divOk_of hg0 (gcd_lt (a := a) (show b ≠ 0 by omega) hk) (Nat.le_refl _)
    have c := gcd_spec (S := S) (n := n) hg a b (B.fuel b hk)
    simp [fill_of (ds := [.int a, .int b]) hg rfl, c, calm, div_int S a _ hd, div_int S b _ hd]
    exact num_div hb
  by_cases hn : b < 0
  · have e := key (0 - a) (0 - b) (by omega) (by unfold Lt at *; omega)
    rw [bReduced, evSs]
    have e1 : evS C (evCall C (n + 1)) (.ife (.cmp .Lt (.var 1) (.int 0)) (.cons (.par2 0 1 (.bin .Sub (.int 0) (.var 0)) (.bin .Sub (.int 0) (.var 1))) .nil) .nil) [some (.int a), some (.int b), none] S = .ok (.nx [some (.int (0 - a)), some (.int (0 - b)), none]) S := by
      simp [hn]
    rw [e1]
    show evSs C _ _ _ _ = _
    rw [e, show Rat.divInt (0 - a) (0 - b) = Rat.divInt a b by rw [Int.zero_sub, Int.zero_sub, Rat.neg_divInt_neg]]
  · have e := key a b (by omega) hk
    rw [bReduced, evSs]
    have e1 : evS C (evCall C (n + 1)) (.ife (.cmp .Lt (.var 1) (.int 0)) (.cons (.par2 0 1 (.bin .Sub (.int 0) (.var 0)) (.bin .Sub (.int 0) (.var 1))) .nil) .nil) [some (.int a), some (.int b), none] S = .ok (.nx [some (.int a), some (.int b), none]) S := by
      simp [hn]
    rw [e1]
    exact e
end
end Q
end
section
-- M4
set_option Elab.async false
set_option linter.all false
set_option maxRecDepth 100000
namespace Q
open PySem (Str Operator CmpOp BoolOp PyData Paired)
/-! ### what is one -/
/-- a tree of intsD as data: p its data, n its depth -/
structure Py (d : D) (p : PyData) (n : Nat) : Prop where
  py : ∀ S f, n < f → D.py S f d = some p
  lay : p.canLay0 = true
  dp : p.depth ≤ n
theorem py_int (i : Int) : Py (.int i) (.int i) 0 := ⟨fun S f h => by
    cases f with
    | zero => omega
    | succ f => rfl, by rw [PyData.canLay0], by rw [PyData.depth]; exact Nat.le_refl _⟩
theorem pys {ds : List D} {ps : List PyData} {n : Nat} (h : Paired (fun d p => Py d p n) ds ps) : (∀ S f, n < f → ds.mapM (D.py S f) = some ps) ∧ PyData.canLayAll0 ps = true ∧ PyData.depthAll ps ≤ n := by
  induction h with
  | nil => exact ⟨fun S f _ => rfl, by rw [PyData.canLayAll0], by rw [PyData.depthAll]; exact Nat.zero_le _⟩
  | cons a r ih =>
    obtain ⟨h1, h2, h3⟩ := ih
    refine ⟨fun S f hf => ?_, ?_, ?_⟩
    · rw [List.mapM_cons, a.py S f hf, h1 S f hf]
      rfl
    · rw [PyData.canLayAll0, a.lay, h2]
      rfl
    · rw [PyData.depthAll]
      have := a.dp
      omega
theorem py_tup {ds : List D} {ps : List PyData} {n : Nat} (h : Paired (fun d p => Py d p n) ds ps) : Py (.tup ds) (.tuple ps) (n + 1) := by
  obtain ⟨h1, h2, h3⟩ := pys h
  refine ⟨fun S f hf => ?_, by rw [PyData.canLay0, h2], by rw [PyData.depth]; omega⟩
  cases f with
  | zero => omega
  | succ f =>
    show (ds.mapM (D.py S f)).map PyData.tuple = _
    rw [h1 S f (by omega)]
    rfl
theorem py_map {α : Type} {g : α → D} {p : α → PyData} {n : Nat} (h : ∀ a, Py (g a) (p a) n) : ∀ l : List α, Paired (fun d p => Py d p n) (l.map g) (l.map p)
  | [] => .nil
  | a :: r => .cons (h a) (py_map h r)
theorem Py.mono {d : D} {p : PyData} {n m : Nat} (h : Py d p n) (e : n ≤ m) : Py d p m := ⟨fun S f hf => h.py S f (by omega), h.lay, by have := h.dp; omega⟩
def pNum (q : Rat) : PyData := .tuple [.int q.num, .int q.den]
theorem py_num (q : Rat) : Py (num q) (pNum q) 1 := py_tup (.cons (py_int _) (.cons (py_int _) .nil))
def row (r : List Rat) : D := .tup (r.map num)
def pRow (r : List Rat) : PyData := .tuple (r.map pNum)
theorem py_row (r : List Rat) : Py (row r) (pRow r) 2 := py_tup (py_map py_num r)
def tabD (t : List (List Rat)) : D := .tup (t.map row)
def pTab (t : List (List Rat)) : PyData := .tuple (t.map pRow)
theorem py_tab (t : List (List Rat)) : Py (tabD t) (pTab t) 3 := py_tup (py_map py_row t)
def intsD (l : List Int) : D := .tup (l.map .int)
def pInts (l : List Int) : PyData := .tuple (l.map .int)
theorem py_ints (l : List Int) : Py (intsD l) (pInts l) 1 := py_tup (py_map py_int l)
theorem eqv_all {α : Type} [DecidableEq α] {p : α → PyData} (h : ∀ a b, PyData.eqv (p a) (p b) = decide (a = b)) : ∀ l m : List α, PyData.eqvAll (l.map p) (m.map p) = decide (l = m)
  | [], [] => by rw [List.map_nil, PyData.eqvAll]; rfl
  | [], b :: m => by rw [List.map_nil, List.map_cons, PyData.eqvAll]; rfl
  | a :: l, [] => by rw [List.map_nil, List.map_cons, PyData.eqvAll]; rfl
  | a :: l, b :: m => by
    rw [List.map_cons, List.map_cons, PyData.eqvAll, h, eqv_all h l m]
    by_cases h1 : a = b <;> by_cases h2 : l = m <;> simp [h1, h2]
theorem eqv_int (a b : Int) : PyData.eqv (.int a) (.int b) = decide (a = b) := by
  rw [PyData.eqv]
  rfl
theorem eqv_num (p q : Rat) : PyData.eqv (pNum p) (pNum q) = decide (p = q) := by
  unfold pNum
  rw [PyData.eqv, PyData.eqvAll, PyData.eqvAll, PyData.eqvAll, eqv_int, eqv_int, Bool.and_true]
  by_cases h : p = q
  · subst h
    simp
  · rw [decide_eq_false h]
    by_cases h1 : p.num = q.num
    · have : (p.den : Int) ≠ q.den := fun z => h (Rat.ext h1 (by omega))
      simp [this]
    · simp [h1]
theorem eqv_row (p q : List Rat) : PyData.eqv (pRow p) (pRow q) = decide (p = q) := by
  unfold pRow
  rw [PyData.eqv, eqv_all eqv_num]
theorem eqv_tab (p q : List (List Rat)) : PyData.eqv (pTab p) (pTab q) = decide (p = q) := by
  unfold pTab
  rw [PyData.eqv, eqv_all eqv_row]
theorem eqv_ints (p q : List Int) : PyData.eqv (pInts p) (pInts q) = decide (p = q) := by
  unfold pInts
  rw [PyData.eqv, eqv_all eqv_int]
theorem eqP_of {S : Store} {d e : D} {p q : PyData} {n m : Nat} (h : Py d p n) (g : Py e q m) (hn : n ≤ 64) (hm : m ≤ 64) : eqR S (.v d) (.v e) = some (PyData.eqv p q) := by
  unfold eqR
  have e1 : R.py S (.v d) = some p := h.py S 66 (by omega)
  have e2 : R.py S (.v e) = some q := g.py S 66 (by omega)
  rw [e1, e2]
  dsimp only
  rw [if_pos]
  unfold PySem.SeqAt.shaped
  have := h.dp
  have := g.dp
  rw [h.lay, g.lay, decide_eq_true (by omega : p.depth ≤ 64), decide_eq_true (by omega : q.depth ≤ 64)]
  rfl
theorem evc_eq (S : Store) (a b : R) : evCmp .Eq S a b = eqR S a b := by cases a <;> cases b <;> rfl
theorem evc_ne (S : Store) (a b : R) : evCmp .NotEq S a b = (eqR S a b).map (!·) := by cases a <;> cases b <;> rfl
section
variable (S : Store)
@[simp] theorem eq_int (p q : Int) : evCmp .Eq S (.v (.int p)) (.v (.int q)) = some (decide (p = q)) := by
  rw [evc_eq, eqP_of (py_int p) (py_int q) (by decide) (by decide), eqv_int]
@[simp] theorem ne_int (p q : Int) : evCmp .NotEq S (.v (.int p)) (.v (.int q)) = some (!decide (p = q)) := by
  rw [evc_ne, eqP_of (py_int p) (py_int q) (by decide) (by decide), eqv_int]
  rfl
@[simp] theorem eq_num (p q : Rat) : evCmp .Eq S (.v (num p)) (.v (num q)) = some (decide (p = q)) := by
  rw [evc_eq, eqP_of (py_num p) (py_num q) (by decide) (by decide), eqv_num]
@[simp] theorem ne_num (p q : Rat) : evCmp .NotEq S (.v (num p)) (.v (num q)) = some (!decide (p = q)) := by
  rw [evc_ne, eqP_of (py_num p) (py_num q) (by decide) (by decide), eqv_num]
  rfl
@[simp] theorem eq_row (p q : List Rat) : evCmp .Eq S (.v (row p)) (.v (row q)) = some (decide (p = q)) := by
  rw [evc_eq, eqP_of (py_row p) (py_row q) (by decide) (by decide), eqv_row]
@[simp] theorem ne_row (p q : List Rat) : evCmp .NotEq S (.v (row p)) (.v (row q)) = some (!decide (p = q)) := by
  rw [evc_ne, eqP_of (py_row p) (py_row q) (by decide) (by decide), eqv_row]
  rfl
@[simp] theorem eq_tab (p q : List (List Rat)) : evCmp .Eq S (.v (tabD p)) (.v (tabD q)) = some (decide (p = q)) := by
  rw [evc_eq, eqP_of (py_tab p) (py_tab q) (by decide) (by decide), eqv_tab]
@[simp] theorem ne_tab (p q : List (List Rat)) : evCmp .NotEq S (.v (tabD p)) (.v (tabD q)) = some (!decide (p = q)) := by
  rw [evc_ne, eqP_of (py_tab p) (py_tab q) (by decide) (by decide), eqv_tab]
  rfl
@[simp] theorem eq_ints (p q : List Int) : evCmp .Eq S (.v (intsD p)) (.v (intsD q)) = some (decide (p = q)) := by
  rw [evc_eq, eqP_of (py_ints p) (py_ints q) (by decide) (by decide), eqv_ints]
@[simp] theorem ne_ints (p q : List Int) : evCmp .NotEq S (.v (intsD p)) (.v (intsD q)) = some (!decide (p = q)) := by
  rw [evc_ne, eqP_of (py_ints p) (py_ints q) (by decide) (by decide), eqv_ints]
  rfl
end
end Q
end
section
-- M5
set_option Elab.async false
set_option linter.all false
set_option maxRecDepth 100000
namespace Q
open PySem (Str Operator CmpOp BoolOp PyData Paired)
/-! ### sums, products of numbers -/
/-- both parts below 2^k -/
structure Sz (k : Nat) (q : Rat) : Prop where
  n : Lt k q.num
  d : Lt k q.den
theorem Sz.mono {k l : Nat} {q : Rat} (h : Sz k q) (e : k ≤ l) : Sz l q := ⟨h.n.mono e, h.d.mono e⟩
theorem den_ne (q : Rat) : (q.den : Int) ≠ 0 := by
  have := q.den_nz
  omega
theorem sz_div {k : Nat} {a b : Int} (ha : Lt k a) (hb : Lt k b) (h0 : b ≠ 0) : Sz k (Rat.divInt a b) := by
  have hg : 0 < b.gcd a := Int.gcd_pos_of_ne_zero_left a h0
  refine ⟨?_, ?_⟩
  · rw [Rat.num_divInt]
    unfold Lt at *
    have h1 : (b.sign * a / (b.gcd a : Int)).natAbs ≤ (b.sign * a).natAbs := Int.natAbs_ediv_le_natAbs _ _
    rw [Int.natAbs_mul, Int.natAbs_sign_of_ne_zero h0, Nat.one_mul] at h1
    omega
  · rw [Rat.den_divInt, if_neg h0]
    unfold Lt at *
    rw [Int.natAbs_natCast]
    exact Nat.lt_of_le_of_lt (Nat.div_le_self _ _) hb
theorem add_div (p q : Rat) : p + q = Rat.divInt (p.num * q.den + q.num * p.den) (p.den * q.den) := by
  conv => lhs; rw [← Rat.num_divInt_den p, ← Rat.num_divInt_den q]
  rw [Rat.divInt_add_divInt _ _ (den_ne p) (den_ne q)]
theorem mul_div (p q : Rat) : p * q = Rat.divInt (p.num * q.num) (p.den * q.den) := by
  conv => lhs; rw [← Rat.num_divInt_den p, ← Rat.num_divInt_den q]
  rw [Rat.divInt_mul_divInt]
theorem Lt.add2 {k : Nat} {i j : Int} (h : Lt k i) (g : Lt k j) : Lt (k + 1) (i + j) := by
  unfold Lt at *
  rw [Nat.pow_succ]
  omega
theorem sz_add {k l : Nat} {p q : Rat} (h : Sz k p) (g : Sz l q) : Sz (k + l + 1) (p + q) := by
  rw [add_div]
  exact sz_div ((h.n.mul g.d).add2 ((g.n.mul h.d).mono (by omega))) ((h.d.mul g.d).mono (by omega)) (Int.mul_ne_zero (den_ne p) (den_ne q))
theorem sz_neg {k : Nat} {p : Rat} (h : Sz k p) : Sz k (-p) := ⟨by rw [Rat.neg_num]; exact h.n.neg, by rw [Rat.neg_den]; exact h.d⟩
theorem sz_sub {k l : Nat} {p q : Rat} (h : Sz k p) (g : Sz l q) : Sz (k + l + 1) (p - q) := by
  rw [Rat.sub_eq_add_neg]
  exact sz_add h (sz_neg g)
theorem sz_zero : Sz 1 0 := ⟨by unfold Lt; decide, by unfold Lt; decide⟩
theorem sz_one : Sz 1 1 := ⟨by unfold Lt; decide, by unfold Lt; decide⟩
theorem sz_mul {k l : Nat} {p q : Rat} (h : Sz k p) (g : Sz l q) : Sz (k + l) (p * q) := by
  rw [mul_div]
  exact sz_div (h.n.mul g.n) (h.d.mul g.d) (Int.mul_ne_zero (den_ne p) (den_ne q))
@[simp] theorem ix_num0 (S : Store) (q : Rat) : getItem S (.v (num q)) (.v (.int 0)) = some (.int q.num) := by
  unfold num
  rw [ix_tup, at0]
@[simp] theorem ix_num1 (S : Store) (q : Rat) : getItem S (.v (num q)) (.v (.int 1)) = some (.int q.den) := by
  unfold num
  rw [ix_tup, at1]
def bAdded (r : Nat) : Ss := (.cons (.ife (.chn .Eq .Eq (.idx (.var 0) (.int 1)) (.idx (.var 1) (.int 1)) (.int 1)) (.cons (.ret (.tup (.cons (.bin .Add (.idx (.var 0) (.int 0)) (.idx (.var 1) (.int 0))) (.cons (.int 1) .nil)))) .nil) .nil) (.cons (.ret (.call r (.cons (.bin .Add (.bin .Mult (.idx (.var 0) (.int 0)) (.idx (.var 1) (.int 1))) (.bin .Mult (.idx (.var 1) (.int 0)) (.idx (.var 0) (.int 1)))) (.cons (.bin .Mult (.idx (.var 0) (.int 1)) (.idx (.var 1) (.int 1))) .nil)))) .nil))
def fAdded (r : Nat) : Fn := ⟨2, 2, [], bAdded r⟩
def bMultiplied (r : Nat) : Ss := (.cons (.ife (.chn .Eq .Eq (.idx (.var 0) (.int 1)) (.idx (.var 1) (.int 1)) (.int 1)) (.cons (.ret (.tup (.cons (.bin .Mult (.idx (.var 0) (.int 0)) (.idx (.var 1) (.int 0))) (.cons (.int 1) .nil)))) .nil) .nil) (.cons (.ret (.call r (.cons (.bin .Mult (.idx (.var 0) (.int 0)) (.idx (.var 1) (.int 0))) (.cons (.bin .Mult (.idx (.var 0) (.int 1)) (.idx (.var 1) (.int 1))) .nil)))) .nil))
def fMultiplied (r : Nat) : Fn := ⟨2, 2, [], bMultiplied r⟩
section
variable {C : Q.Ctx} {call : Nat → List D → Store → Res R} {S : Store}
theorem num_int (x : Int) : D.tup [.int x, .int 1] = num (Rat.divInt x 1) := by
  unfold num
  rw [Rat.num_divInt, Rat.den_divInt]
  simp
theorem den_one {p q : Rat} (h1 : p.den = 1) (h2 : q.den = 1) : p + q = Rat.divInt (p.num + q.num) 1 ∧ p * q = Rat.divInt (p.num * q.num) 1 := by
  rw [add_div, mul_div, h1, h2]
  simp
theorem one_test {p q : Rat} {e : E} (h : ¬ (((p.den : Int) = q.den) ∧ (q.den : Int) = 1)) : evS C call (.ife (.chn .Eq .Eq (.idx (.var 0) (.int 1)) (.idx (.var 1) (.int 1)) (.int 1)) (.cons (.ret e) .nil) .nil) [some (num p), some (num q)] S = .ok (.nx [some (num p), some (num q)]) S := by
  by_cases h1 : (p.den : Int) = q.den
  · have h2 : ¬ (q.den : Int) = 1 := fun z => h ⟨h1, z⟩
    have h1' : p.den = q.den := by omega
    simp [h1', h2]
  · simp [h1]
theorem added_spec (B : Big C) {n i r g k l : Nat} (h : C.fns[i]? = some (fAdded r)) (hr : C.fns[r]? = some (fReduced g)) (hg : C.fns[g]? = some fGcd) {p q : Rat} (hp : Sz k p) (hq : Sz l q) (e : k + l ≤ 9000) : evCall C (n + 3) i [num p, num q] S = .ok (.v (num (p + q))) S := by
  refine ev_pure h rfl ?_
  show evSs C (evCall C (n + 2)) (bAdded r) [some (num p), some (num q)] S = _
  by_cases hd : p.den = 1 ∧ q.den = 1
  · simp [bAdded, hd.1, hd.2, (den_one hd.1 hd.2).1, num_int]
  · have hd' : ¬ (((p.den : Int) = q.den) ∧ (q.den : Int) = 1) := fun z => hd ⟨by omega, by omega⟩
    have c := reduced_spec (S := S) (n := n) B hr hg (p.num * q.den + q.num * p.den) (p.den * q.den) (Int.mul_ne_zero (den_ne p) (den_ne q)) ((hp.d.mul hq.d).mono e)
    have f := fill_of (C := C) (ds := [.int (p.num * q.den + q.num * p.den), .int (p.den * q.den)]) hr rfl
    have m1 := mul_int S p.num q.den (mulOk_of hp.n hq.d (by omega))
    have m2 := mul_int S q.num p.den (mulOk_of hq.n hp.d (by omega))
    have m3 := mul_int S p.den q.den (mulOk_of hp.d hq.d (by omega))
    have e1 := one_test (C := C) (call := evCall C (n + 2)) (S := S) (e := .tup (.cons (.bin .Add (.idx (.var 0) (.int 0)) (.idx (.var 1) (.int 0))) (.cons (.int 1) .nil))) hd'
    rw [bAdded, evSs, e1]
    simp [m1, m2, m3, f, c, add_div]
theorem multiplied_spec (B : Big C) {n i r g k l : Nat} (h : C.fns[i]? = some (fMultiplied r)) (hr : C.fns[r]? = some (fReduced g)) (hg : C.fns[g]? = some fGcd) {p q : Rat} (hp : Sz k p) (hq : Sz l q) (e : k + l ≤ 9000) : evCall C (n + 3) i [num p, num q] S = .ok (.v (num (p * q))) S := by
  refine ev_pure h rfl ?_
  show evSs C (evCall C (n + 2)) (bMultiplied r) [some (num p), some (num q)] S = _
  have m2 := mul_int S p.num q.num (mulOk_of hp.n hq.n (by omega))
  by_cases hd : p.den = 1 ∧ q.den = 1
  · simp [bMultiplied, hd.1, hd.2, (den_one hd.1 hd.2).2, num_int, m2]
  · have hd' : ¬ (((p.den : Int) = q.den) ∧ (q.den : Int) = 1) := fun z => hd ⟨by omega, by omega⟩
    have c := reduced_spec (S := S) (n := n) B hr hg (p.num * q.num) (p.den * q.den) (Int.mul_ne_zero (den_ne p) (den_ne q)) ((hp.d.mul hq.d).mono e)
    have f := fill_of (C := C) (ds := [.int (p.num * q.num), .int (p.den * q.den)]) hr rfl
    have m3 := mul_int S p.den q.den (mulOk_of hp.d hq.d (by omega))
    have e1 := one_test (C := C) (call := evCall C (n + 2)) (S := S) (e := .tup (.cons (.bin .Mult (.idx (.var 0) (.int 0)) (.idx (.var 1) (.int 0))) (.cons (.int 1) .nil))) hd'
    rw [bMultiplied, evSs, e1]
    simp [m2, m3, f, c, mul_div]
def bOpposite : Ss := (.cons (.ret (.tup (.cons (.bin .Sub (.int 0) (.idx (.var 0) (.int 0))) (.cons (.idx (.var 0) (.int 1)) .nil)))) .nil)
def fOpposite : Fn := ⟨1, 1, [], bOpposite⟩
theorem opposite_spec {n i : Nat} (h : C.fns[i]? = some fOpposite) (p : Rat) : evCall C (n + 1) i [num p] S = .ok (.v (num (-p))) S := by
  refine ev_pure h rfl ?_
  show evSs C (evCall C n) bOpposite [some (num p)] S = _
  simp [bOpposite]
  simp [num, Rat.neg_num, Rat.neg_den]
def bDivided (r : Nat) : Ss := (.cons (.ret (.call r (.cons (.bin .Mult (.idx (.var 0) (.int 0)) (.idx (.var 1) (.int 1))) (.cons (.bin .Mult (.idx (.var 0) (.int 1)) (.idx (.var 1) (.int 0))) .nil)))) .nil)
def fDivided (r : Nat) : Fn := ⟨2, 2, [], bDivided r⟩
theorem quot_div (p q : Rat) : p / q = Rat.divInt (p.num * q.den) (p.den * q.num) := by
  conv => lhs; rw [← Rat.num_divInt_den p, ← Rat.num_divInt_den q]
  rw [Rat.div_def, Rat.inv_divInt, Rat.divInt_mul_divInt]
theorem num_ne {q : Rat} (h : q ≠ 0) : q.num ≠ 0 := fun z => h (Rat.num_eq_zero.mp z)
theorem divided_spec (B : Big C) {n i r g k l : Nat} (h : C.fns[i]? = some (fDivided r)) (hr : C.fns[r]? = some (fReduced g)) (hg : C.fns[g]? = some fGcd) {p q : Rat} (hp : Sz k p) (hq : Sz l q) (hn : q ≠ 0) (e : k + l ≤ 9000) : evCall C (n + 3) i [num p, num q] S = .ok (.v (num (p / q))) S := by
  refine ev_pure h rfl ?_
  show evSs C (evCall C (n + 2)) (bDivided r) [some (num p), some (num q)] S = _
  have c := reduced_spec (S := S) (n := n) B hr hg (p.num * q.den) (p.den * q.num) (Int.mul_ne_zero (den_ne p) (num_ne hn)) ((hp.d.mul hq.n).mono e)
  have f := fill_of (C := C) (ds := [.int (p.num * q.den), .int (p.den * q.num)]) hr rfl
  have m1 := mul_int S p.num q.den (mulOk_of hp.n hq.d (by omega))
  have m2 := mul_int S p.den q.num (mulOk_of hp.d hq.n (by omega))
  simp [bDivided, m1, m2, f, c, quot_div]
/-! ### the law's own -/
def bFr : Ss := (.cons (.par2 3 4 (.bi1 .abs (.var 1)) (.bi1 .abs (.var 0))) (.cons (.whl (.cmp .Gt (.var 4) (.int 0)) (.cons (.par2 3 4 (.var 4) (.bin .Mod (.var 3) (.var 4))) .nil)) (.cons (.asg (.nm 2) (.ife (.cmp .Gt (.var 1) (.int 0)) (.int 1) (.neg (.int 1)))) (.cons (.ret (.tup (.cons (.bin .FloorDiv (.bin .Mult (.var 2) (.var 0)) (.var 3)) (.cons (.bin .FloorDiv (.bin .Mult (.var 2) (.var 1)) (.var 3)) .nil)))) .nil))))
def fFr : Fn := ⟨2, 5, [], bFr⟩
theorem fr_test (x y z : Option D) (a b : Nat) : evE C call (.cmp .Gt (.var 4) (.int 0)) [x, y, z, some (.int a), some (.int b)] S = .ok (.v (.bl (decide (0 < (b : Int))))) S := by simp
theorem fr_body (x y z : Option D) (a b : Nat) (h : (b : Int) ≠ 0) : evSs C call (.cons (.par2 3 4 (.var 4) (.bin .Mod (.var 3) (.var 4))) .nil) [x, y, z, some (.int a), some (.int b)] S = .ok (.nx [x, y, z, some (.int b), some (.int ((a % b : Nat) : Int))]) S := by
  simp [mod_int S a b h, fmod_nat]
theorem fr_loop (x y z : Option D) : ∀ (f a b : Nat), b < f → evWhl (evE C call (.cmp .Gt (.var 4) (.int 0))) (evSs C call (.cons (.par2 3 4 (.var 4) (.bin .Mod (.var 3) (.var 4))) .nil)) f [x, y, z, some (.int a), some (.int b)] S = .ok (.nx [x, y, z, some (.int (Nat.gcd a b)), some (.int 0)]) S
  | 0, a, b, h => absurd h (Nat.not_lt_zero _)
  | f + 1, a, b, h => by
    by_cases hb : b = 0
    · subst hb
      rw [whl_end (by rw [fr_test]; rfl), Nat.gcd_zero_right]
      rfl
    · rw [whl_step (by rw [fr_test, decide_eq_true (by omega)]) (fr_body x y z a b (by omega)), fr_loop x y z f b (a % b) (by have := Nat.mod_lt a (Nat.pos_of_ne_zero hb); omega)]
      rw [Nat.gcd_comm b, ← Nat.gcd_rec, Nat.gcd_comm]
theorem lt_one : Lt 1 1 := by unfold Lt; decide
theorem fr_spec (B : Big C) {n i : Nat} (h : C.fns[i]? = some fFr) (a b : Int) (hb : b ≠ 0) (ha : Lt 9000 a) (hk : Lt 9000 b) : evCall C (n + 1) i [.int a, .int b] S = .ok (.v (num (Rat.divInt a b))) S := by
  refine ev_pure h rfl ?_
  show evSs C (evCall C n) bFr [some (.int a), some (.int b), none, none, none] S = _
  have e0 : evS C (evCall C n) (.par2 3 4 (.bi1 .abs (.var 1)) (.bi1 .abs (.var 0))) [some (.int a), some (.int b), none, none, none] S = .ok (.nx [some (.int a), some (.int b), none, some (.int b.natAbs), some (.int a.natAbs)]) S := by simp [abs_if]
  rw [bFr, evSs, e0]
  show (evSs C (evCall C n) _ _ S) = _
  rw [evSs, evS, fr_loop _ _ _ _ _ _ (B.fuel a ha)]
  have hg : (Nat.gcd b.natAbs a.natAbs : Int) = Int.gcd b a := rfl
  have hg0 : (Int.gcd b a : Int) ≠ 0 := by
    have := Int.gcd_pos_of_ne_zero_left a hb
    omega
  have hd := divOk_of hg0 (k := 9000) (by rw [Int.gcd_comm]; exact gcd_lt hb hk) (Nat.le_refl _)
  have key : ∀ a b : Int, 0 < b → D.tup [.int (a.fdiv (Int.gcd b a)), .int (b.fdiv (Int.gcd b a))] = num (Rat.divInt a b) := fun a b hb => by
    rw [Int.gcd_comm]
    exact num_div hb
  by_cases hp : 0 < b
  · have m1 := mul_int S 1 a (mulOk_of lt_one ha (by omega))
    have m2 := mul_int S 1 b (mulOk_of lt_one hk (by omega))
    simp [hp, calm, m1, m2, hg, div_int S a _ hd, div_int S b _ hd]
    exact key a b hp
  · have m1 := mul_int S (-1) a (mulOk_of lt_one.neg ha (by omega))
    have m2 := mul_int S (-1) b (mulOk_of lt_one.neg hk (by omega))
    have k2 := key (-a) (-b) (by omega)
    rw [Int.gcd_neg, Int.neg_gcd, Rat.neg_divInt_neg] at k2
    simp [hp, calm, m1, m2, hg, div_int S (-a) _ hd, div_int S (-b) _ hd]
    exact k2
def bPlus (r : Nat) : Ss := (.cons (.ret (.call r (.cons (.bin .Add (.bin .Mult (.idx (.var 0) (.int 0)) (.idx (.var 1) (.int 1))) (.bin .Mult (.idx (.var 1) (.int 0)) (.idx (.var 0) (.int 1)))) (.cons (.bin .Mult (.idx (.var 1) (.int 1)) (.idx (.var 0) (.int 1))) .nil)))) .nil)
def fPlus (r : Nat) : Fn := ⟨2, 2, [], bPlus r⟩
def bMinus (r : Nat) : Ss := (.cons (.ret (.call r (.cons (.bin .Sub (.bin .Mult (.idx (.var 0) (.int 0)) (.idx (.var 1) (.int 1))) (.bin .Mult (.idx (.var 1) (.int 0)) (.idx (.var 0) (.int 1)))) (.cons (.bin .Mult (.idx (.var 1) (.int 1)) (.idx (.var 0) (.int 1))) .nil)))) .nil)
def fMinus (r : Nat) : Fn := ⟨2, 2, [], bMinus r⟩
def bTimes (r : Nat) : Ss := (.cons (.ret (.call r (.cons (.bin .Mult (.idx (.var 1) (.int 0)) (.idx (.var 0) (.int 0))) (.cons (.bin .Mult (.idx (.var 1) (.int 1)) (.idx (.var 0) (.int 1))) .nil)))) .nil)
def fTimes (r : Nat) : Fn := ⟨2, 2, [], bTimes r⟩
def bUnder : Ss := (.cons (.ret (.cmp .Lt (.bin .Mult (.idx (.var 0) (.int 0)) (.idx (.var 1) (.int 1))) (.bin .Mult (.idx (.var 1) (.int 0)) (.idx (.var 0) (.int 1))))) .nil)
def fUnder : Fn := ⟨2, 2, [], bUnder⟩
theorem add_div' (p q : Rat) : p + q = Rat.divInt (p.num * q.den + q.num * p.den) (q.den * p.den) := by rw [add_div, Int.mul_comm (q.den : Int)]
theorem mul_div' (p q : Rat) : p * q = Rat.divInt (q.num * p.num) (q.den * p.den) := by rw [mul_div, Int.mul_comm (q.den : Int), Int.mul_comm q.num]
theorem sub_div' (p q : Rat) : p - q = Rat.divInt (p.num * q.den - q.num * p.den) (q.den * p.den) := by
  rw [Rat.sub_eq_add_neg, add_div', Rat.neg_num, Rat.neg_den, Int.neg_mul, Int.sub_eq_add_neg]
theorem plus_spec (B : Big C) {n i r k l : Nat} (h : C.fns[i]? = some (fPlus r)) (hr : C.fns[r]? = some fFr) {p q : Rat} (hp : Sz k p) (hq : Sz l q) (e : k + l ≤ 4000) : evCall C (n + 2) i [num p, num q] S = .ok (.v (num (p + q))) S := by
  refine ev_pure h rfl ?_
  show evSs C (evCall C (n + 1)) (bPlus r) [some (num p), some (num q)] S = _
  have c := fr_spec (S := S) (n := n) B hr (p.num * q.den + q.num * p.den) (q.den * p.den) (Int.mul_ne_zero (den_ne q) (den_ne p)) (((hp.n.mul hq.d).add (hq.n.mul hp.d)).mono (by omega)) ((hq.d.mul hp.d).mono (by omega))
  have f := fill_of (C := C) (ds := [.int (p.num * q.den + q.num * p.den), .int (q.den * p.den)]) hr rfl
  have m1 := mul_int S p.num q.den (mulOk_of hp.n hq.d (by omega))
  have m2 := mul_int S q.num p.den (mulOk_of hq.n hp.d (by omega))
  have m3 := mul_int S q.den p.den (mulOk_of hq.d hp.d (by omega))
  simp [bPlus, m1, m2, m3, f, c, add_div']
theorem minus_spec (B : Big C) {n i r k l : Nat} (h : C.fns[i]? = some (fMinus r)) (hr : C.fns[r]? = some fFr) {p q : Rat} (hp : Sz k p) (hq : Sz l q) (e : k + l ≤ 4000) : evCall C (n + 2) i [num p, num q] S = .ok (.v (num (p - q))) S := by
  refine ev_pure h rfl ?_
  show evSs C (evCall C (n + 1)) (bMinus r) [some (num p), some (num q)] S = _
  have c := fr_spec (S := S) (n := n) B hr (p.num * q.den - q.num * p.den) (q.den * p.den) (Int.mul_ne_zero (den_ne q) (den_ne p)) (((hp.n.mul hq.d).sub (hq.n.mul hp.d)).mono (by omega)) ((hq.d.mul hp.d).mono (by omega))
  have f := fill_of (C := C) (ds := [.int (p.num * q.den - q.num * p.den), .int (q.den * p.den)]) hr rfl
  have m1 := mul_int S p.num q.den (mulOk_of hp.n hq.d (by omega))
  have m2 := mul_int S q.num p.den (mulOk_of hq.n hp.d (by omega))
  have m3 := mul_int S q.den p.den (mulOk_of hq.d hp.d (by omega))
  simp [bMinus, m1, m2, m3, f, c, sub_div']
theorem times_spec (B : Big C) {n i r k l : Nat} (h : C.fns[i]? = some (fTimes r)) (hr : C.fns[r]? = some fFr) {p q : Rat} (hp : Sz k p) (hq : Sz l q) (e : k + l ≤ 4000) : evCall C (n + 2) i [num p, num q] S = .ok (.v (num (p * q))) S := by
  refine ev_pure h rfl ?_
  show evSs C (evCall C (n + 1)) (bTimes r) [some (num p), some (num q)] S = _
  have c := fr_spec (S := S) (n := n) B hr (q.num * p.num) (q.den * p.den) (Int.mul_ne_zero (den_ne q) (den_ne p)) ((hq.n.mul hp.n).mono (by omega)) ((hq.d.mul hp.d).mono (by omega))
  have f := fill_of (C := C) (ds := [.int (q.num * p.num), .int (q.den * p.den)]) hr rfl
  have m1 := mul_int S q.num p.num (mulOk_of hq.n hp.n (by omega))
  have m3 := mul_int S q.den p.den (mulOk_of hq.d hp.d (by omega))
  simp [bTimes, m1, m3, f, c, mul_div']
theorem under_spec {n i k l : Nat} (h : C.fns[i]? = some fUnder) {p q : Rat} (hp : Sz k p) (hq : Sz l q) (e : k + l ≤ 4000) : evCall C (n + 1) i [num p, num q] S = .ok (.v (.bl (decide (p < q)))) S := by
  refine ev_pure h rfl ?_
  show evSs C (evCall C n) bUnder [some (num p), some (num q)] S = _
  have m1 := mul_int S p.num q.den (mulOk_of hp.n hq.d (by omega))
  have m2 := mul_int S q.num p.den (mulOk_of hq.n hp.d (by omega))
  simp [bUnder, m1, m2, Rat.lt_iff]
end
end Q
end
section
-- L35
set_option Elab.async false
set_option linter.all false
namespace Q
open PySem
def t_is_integer : Ss := (.cons (.ret (.bop .And (.cons (.isi (.var 0) .int) (.cons (.not (.isi (.var 0) .bool)) .nil)))) .nil)
def F_is_integer : Fn := ⟨1, 1, [], t_is_integer⟩
def t_common_divisor : Ss := (.cons (.par2 0 1 (.bi1 .abs (.var 0)) (.bi1 .abs (.var 1))) (.cons (.whl (.cmp .Gt (.var 1) (.int 0)) (.cons (.par2 0 1 (.var 1) (.bin .Mod (.var 0) (.var 1))) .nil)) (.cons (.ret (.var 0)) .nil)))
def F_common_divisor : Fn := ⟨2, 2, [], t_common_divisor⟩
def t_is_number (i_is_integer i_common_divisor : Nat) : Ss := (.cons (.ife (.bop .Or (.cons (.not (.isi (.var 0) .tuple)) (.cons (.cmp .NotEq (.bi1 .len (.var 0)) (.int 2)) (.cons (.not (.bi1 .all (.lc (.call i_is_integer (.cons (.var 1) .nil)) (.nm 1) (.seq (.var 0)) .no 0))) .nil)))) (.cons (.ret (.bl false)) .nil) .nil) (.cons (.ret (.bop .And (.cons (.cmp .GtE (.idx (.var 0) (.int 1)) (.int 1)) (.cons (.cmp .Eq (.call i_common_divisor (.cons (.idx (.var 0) (.int 0)) (.cons (.idx (.var 0) (.int 1)) .nil))) (.int 1)) .nil)))) .nil))
def F_is_number (i_is_integer i_common_divisor : Nat) : Fn := ⟨1, 2, [], t_is_number i_is_integer i_common_divisor⟩
def t_reduced (i_common_divisor : Nat) : Ss := (.cons (.ife (.cmp .Lt (.var 1) (.int 0)) (.cons (.par2 0 1 (.bin .Sub (.int 0) (.var 0)) (.bin .Sub (.int 0) (.var 1))) .nil) .nil) (.cons (.asg (.nm 2) (.call i_common_divisor (.cons (.var 0) (.cons (.var 1) .nil)))) (.cons (.ret (.tup (.cons (.bin .FloorDiv (.var 0) (.var 2)) (.cons (.bin .FloorDiv (.var 1) (.var 2)) .nil)))) .nil)))
def F_reduced (i_common_divisor : Nat) : Fn := ⟨2, 3, [], t_reduced i_common_divisor⟩
def t_require_count (i_is_integer : Nat) : Ss := (.cons (.ife (.bop .Or (.cons (.not (.call i_is_integer (.cons (.var 0) .nil))) (.cons (.not (.chn .LtE .LtE (.var 1) (.var 0) (.var 2))) .nil))) (.cons (.hole 0) .nil) .nil) .nil)
def F_require_count (i_is_integer : Nat) : Fn := ⟨3, 3, [.int 0, .int 60], t_require_count i_is_integer⟩
def t_added (i_reduced : Nat) : Ss := (.cons (.ife (.chn .Eq .Eq (.idx (.var 0) (.int 1)) (.idx (.var 1) (.int 1)) (.int 1)) (.cons (.ret (.tup (.cons (.bin .Add (.idx (.var 0) (.int 0)) (.idx (.var 1) (.int 0))) (.cons (.int 1) .nil)))) .nil) .nil) (.cons (.ret (.call i_reduced (.cons (.bin .Add (.bin .Mult (.idx (.var 0) (.int 0)) (.idx (.var 1) (.int 1))) (.bin .Mult (.idx (.var 1) (.int 0)) (.idx (.var 0) (.int 1)))) (.cons (.bin .Mult (.idx (.var 0) (.int 1)) (.idx (.var 1) (.int 1))) .nil)))) .nil))
def F_added (i_reduced : Nat) : Fn := ⟨2, 2, [], t_added i_reduced⟩
def t_multiplied (i_reduced : Nat) : Ss := (.cons (.ife (.chn .Eq .Eq (.idx (.var 0) (.int 1)) (.idx (.var 1) (.int 1)) (.int 1)) (.cons (.ret (.tup (.cons (.bin .Mult (.idx (.var 0) (.int 0)) (.idx (.var 1) (.int 0))) (.cons (.int 1) .nil)))) .nil) .nil) (.cons (.ret (.call i_reduced (.cons (.bin .Mult (.idx (.var 0) (.int 0)) (.idx (.var 1) (.int 0))) (.cons (.bin .Mult (.idx (.var 0) (.int 1)) (.idx (.var 1) (.int 1))) .nil)))) .nil))
def F_multiplied (i_reduced : Nat) : Fn := ⟨2, 2, [], t_multiplied i_reduced⟩
def t_opposite : Ss := (.cons (.ret (.tup (.cons (.bin .Sub (.int 0) (.idx (.var 0) (.int 0))) (.cons (.idx (.var 0) (.int 1)) .nil)))) .nil)
def F_opposite : Fn := ⟨1, 1, [], t_opposite⟩
def t_divided (i_reduced : Nat) : Ss := (.cons (.ret (.call i_reduced (.cons (.bin .Mult (.idx (.var 0) (.int 0)) (.idx (.var 1) (.int 1))) (.cons (.bin .Mult (.idx (.var 0) (.int 1)) (.idx (.var 1) (.int 0))) .nil)))) .nil)
def F_divided (i_reduced : Nat) : Fn := ⟨2, 2, [], t_divided i_reduced⟩
def t_sum_of (i_added g_NOUGHT : Nat) : Ss := (.cons (.asg (.nm 1) (.glb g_NOUGHT)) (.cons (.for (.nm 2) (.seq (.var 0)) (.cons (.asg (.nm 1) (.call i_added (.cons (.var 1) (.cons (.var 2) .nil)))) .nil)) (.cons (.ret (.var 1)) .nil)))
def F_sum_of (i_added g_NOUGHT : Nat) : Fn := ⟨1, 3, [], t_sum_of i_added g_NOUGHT⟩
def t_is_plain_row (i_is_number : Nat) : Ss := (.cons (.ret (.bop .And (.cons (.isi (.var 1) .tuple) (.cons (.cmp .Eq (.bi1 .len (.var 1)) (.var 0)) (.cons (.bi1 .all (.lc (.call i_is_number (.cons (.var 2) .nil)) (.nm 2) (.seq (.var 1)) .no 0)) .nil))))) .nil)
def F_is_plain_row (i_is_number : Nat) : Fn := ⟨2, 3, [], t_is_plain_row i_is_number⟩
def t_rest_row (g_NOUGHT : Nat) : Ss := (.cons (.ret (.bin .Mult (.tup (.cons (.glb g_NOUGHT) .nil)) (.var 0))) .nil)
def F_rest_row (g_NOUGHT : Nat) : Fn := ⟨1, 1, [], t_rest_row g_NOUGHT⟩
def t_unit_row (g_ONE g_NOUGHT : Nat) : Ss := (.cons (.ret (.bi1 .tuple (.lc (.ife (.cmp .Eq (.var 2) (.var 1)) (.glb g_ONE) (.glb g_NOUGHT)) (.nm 2) (.rng1 (.var 0)) .no 0))) .nil)
def F_unit_row (g_ONE g_NOUGHT : Nat) : Fn := ⟨2, 3, [], t_unit_row g_ONE g_NOUGHT⟩
def t_sum_of_rows (i_added : Nat) : Ss := (.cons (.ret (.bi1 .tuple (.lc (.call i_added (.cons (.var 2) (.cons (.var 3) .nil))) (.tp (.cons (.nm 2) (.cons (.nm 3) .nil))) (.zip (.var 0) (.var 1)) .no 0))) .nil)
def F_sum_of_rows (i_added : Nat) : Fn := ⟨2, 4, [], t_sum_of_rows i_added⟩
def t_times_row (i_multiplied g_NOUGHT : Nat) : Ss := (.cons (.ret (.bi1 .tuple (.lc (.ife (.cmp .NotEq (.var 2) (.glb g_NOUGHT)) (.call i_multiplied (.cons (.var 0) (.cons (.var 2) .nil))) (.glb g_NOUGHT)) (.nm 2) (.seq (.var 1)) .no 0))) .nil)
def F_times_row (i_multiplied g_NOUGHT : Nat) : Fn := ⟨2, 3, [], t_times_row i_multiplied g_NOUGHT⟩
def t_product_of (i_added i_multiplied g_NOUGHT : Nat) : Ss := (.cons (.asg (.nm 2) (.glb g_NOUGHT)) (.cons (.for (.tp (.cons (.nm 3) (.cons (.nm 4) .nil))) (.zip (.var 0) (.var 1)) (.cons (.ife (.bop .And (.cons (.cmp .NotEq (.var 3) (.glb g_NOUGHT)) (.cons (.cmp .NotEq (.var 4) (.glb g_NOUGHT)) .nil))) (.cons (.asg (.nm 2) (.call i_added (.cons (.var 2) (.cons (.call i_multiplied (.cons (.var 3) (.cons (.var 4) .nil))) .nil)))) .nil) .nil) .nil)) (.cons (.ret (.var 2)) .nil)))
def F_product_of (i_added i_multiplied g_NOUGHT : Nat) : Fn := ⟨2, 5, [], t_product_of i_added i_multiplied g_NOUGHT⟩
def t_led_told (i_rest_row i_sum_of_rows i_times_row g_NOUGHT : Nat) : Ss := (.cons (.asg (.nm 3) (.call i_rest_row (.cons (.var 0) .nil))) (.cons (.for (.tp (.cons (.nm 4) (.cons (.nm 5) .nil))) (.zip (.var 2) (.var 1)) (.cons (.ife (.cmp .NotEq (.var 4) (.glb g_NOUGHT)) (.cons (.asg (.nm 3) (.call i_sum_of_rows (.cons (.var 3) (.cons (.call i_times_row (.cons (.var 4) (.cons (.var 5) .nil))) .nil)))) .nil) .nil) .nil)) (.cons (.ret (.var 3)) .nil)))
def F_led_told (i_rest_row i_sum_of_rows i_times_row g_NOUGHT : Nat) : Fn := ⟨3, 6, [], t_led_told i_rest_row i_sum_of_rows i_times_row g_NOUGHT⟩
def t_are_from_nought : Ss := (.cons (.ret (.bi1 .all (.lc (.cmp .GtE (.idx (.var 1) (.int 0)) (.int 0)) (.nm 1) (.seq (.var 0)) .no 0))) .nil)
def F_are_from_nought : Fn := ⟨1, 2, [], t_are_from_nought⟩
def t_is_plain_mix (i_is_plain_row i_are_from_nought : Nat) : Ss := (.cons (.ret (.bop .And (.cons (.call i_is_plain_row (.cons (.var 0) (.cons (.var 1) .nil))) (.cons (.call i_are_from_nought (.cons (.var 1) .nil)) .nil)))) .nil)
def F_is_plain_mix (i_is_plain_row i_are_from_nought : Nat) : Fn := ⟨2, 2, [], t_is_plain_mix i_is_plain_row i_are_from_nought⟩
def t_require_width (i_require_count g_MAX_WIDTH : Nat) : Ss := (.cons (.expr (.call i_require_count (.cons (.var 0) (.cons (.int 1) (.cons (.glb g_MAX_WIDTH) .nil))))) .nil)
def F_require_width (i_require_count g_MAX_WIDTH : Nat) : Fn := ⟨1, 1, [], t_require_width i_require_count g_MAX_WIDTH⟩
def t_is_plain_chances (i_is_plain_mix i_sum_of g_ONE : Nat) : Ss := (.cons (.ret (.bop .And (.cons (.call i_is_plain_mix (.cons (.var 0) (.cons (.var 1) .nil))) (.cons (.cmp .Eq (.call i_sum_of (.cons (.var 1) .nil)) (.glb g_ONE)) .nil)))) .nil)
def F_is_plain_chances (i_is_plain_mix i_sum_of g_ONE : Nat) : Fn := ⟨2, 2, [], t_is_plain_chances i_is_plain_mix i_sum_of g_ONE⟩
def t_are_chance_rows (i_is_plain_chances : Nat) : Ss := (.cons (.ife (.bop .Or (.cons (.not (.isi (.var 2) .tuple)) (.cons (.cmp .NotEq (.bi1 .len (.var 2)) (.var 0)) .nil))) (.cons (.ret (.bl false)) .nil) .nil) (.cons (.ret (.bi1 .all (.lc (.call i_is_plain_chances (.cons (.var 1) (.cons (.var 3) .nil))) (.nm 3) (.seq (.var 2)) .no 0))) .nil))
def F_are_chance_rows (i_is_plain_chances : Nat) : Fn := ⟨3, 4, [], t_are_chance_rows i_is_plain_chances⟩
def t_require_chances (i_is_plain_chances : Nat) : Ss := (.cons (.ife (.not (.call i_is_plain_chances (.cons (.var 0) (.cons (.var 1) .nil)))) (.cons (.hole 0) .nil) .nil) .nil)
def F_require_chances (i_is_plain_chances : Nat) : Fn := ⟨2, 2, [], t_require_chances i_is_plain_chances⟩
def t_require_chance_table (i_are_chance_rows : Nat) : Ss := (.cons (.ife (.not (.call i_are_chance_rows (.cons (.var 0) (.cons (.var 1) (.cons (.var 2) .nil))))) (.cons (.hole 0) .nil) .nil) .nil)
def F_require_chance_table (i_are_chance_rows : Nat) : Fn := ⟨3, 3, [], t_require_chance_table i_are_chance_rows⟩
def t_require_line (i_is_plain_row : Nat) : Ss := (.cons (.ife (.not (.call i_is_plain_row (.cons (.var 0) (.cons (.var 1) .nil)))) (.cons (.hole 0) .nil) .nil) .nil)
def F_require_line (i_is_plain_row : Nat) : Fn := ⟨2, 2, [], t_require_line i_is_plain_row⟩
def t_require_share (i_is_number : Nat) : Ss := (.cons (.ife (.bop .Or (.cons (.not (.call i_is_number (.cons (.var 0) .nil))) (.cons (.not (.chn .LtE .LtE (.int 0) (.idx (.var 0) (.int 0)) (.idx (.var 0) (.int 1)))) .nil))) (.cons (.hole 0) .nil) .nil) .nil)
def F_require_share (i_is_number : Nat) : Fn := ⟨1, 1, [], t_require_share i_is_number⟩
def t_behind_by (i_led_told : Nat) : Ss := (.cons (.ret (.call i_led_told (.cons (.bi1 .len (.idx (.var 0) (.int 0))) (.cons (.var 0) (.cons (.var 1) .nil))))) .nil)
def F_behind_by (i_led_told : Nat) : Fn := ⟨2, 2, [], t_behind_by i_led_told⟩
def t_between_by (i_sum_of_rows i_times_row i_added i_opposite g_ONE : Nat) : Ss := (.cons (.ret (.call i_sum_of_rows (.cons (.call i_times_row (.cons (.var 0) (.cons (.var 1) .nil))) (.cons (.call i_times_row (.cons (.call i_added (.cons (.glb g_ONE) (.cons (.call i_opposite (.cons (.var 0) .nil)) .nil))) (.cons (.var 2) .nil))) .nil)))) .nil)
def F_between_by (i_sum_of_rows i_times_row i_added i_opposite g_ONE : Nat) : Fn := ⟨3, 3, [], t_between_by i_sum_of_rows i_times_row i_added i_opposite g_ONE⟩
def t_weighed_by (i_times_row i_divided i_sum_of g_ONE : Nat) : Ss := (.cons (.ret (.call i_times_row (.cons (.call i_divided (.cons (.glb g_ONE) (.cons (.call i_sum_of (.cons (.var 0) .nil)) .nil))) (.cons (.var 0) .nil)))) .nil)
def F_weighed_by (i_times_row i_divided i_sum_of g_ONE : Nat) : Fn := ⟨1, 1, [], t_weighed_by i_times_row i_divided i_sum_of g_ONE⟩
def t_is_chances (i_require_width i_is_plain_chances : Nat) : Ss := (.cons (.expr (.call i_require_width (.cons (.var 0) .nil))) (.cons (.ret (.call i_is_plain_chances (.cons (.var 0) (.cons (.var 1) .nil)))) .nil))
def F_is_chances (i_require_width i_is_plain_chances : Nat) : Fn := ⟨2, 2, [], t_is_chances i_require_width i_is_plain_chances⟩
def t_is_chance_table (i_require_width i_are_chance_rows : Nat) : Ss := (.cons (.expr (.call i_require_width (.cons (.var 0) .nil))) (.cons (.expr (.call i_require_width (.cons (.var 1) .nil))) (.cons (.ret (.call i_are_chance_rows (.cons (.var 0) (.cons (.var 1) (.cons (.var 2) .nil))))) .nil)))
def F_is_chance_table (i_require_width i_are_chance_rows : Nat) : Fn := ⟨3, 3, [], t_is_chance_table i_require_width i_are_chance_rows⟩
def t_sure_chances (i_require_width i_is_integer i_unit_row : Nat) : Ss := (.cons (.expr (.call i_require_width (.cons (.var 0) .nil))) (.cons (.ife (.bop .Or (.cons (.not (.call i_is_integer (.cons (.var 1) .nil))) (.cons (.not (.chn .LtE .Lt (.int 0) (.var 1) (.var 0))) .nil))) (.cons (.hole 0) .nil) .nil) (.cons (.ret (.call i_unit_row (.cons (.var 0) (.cons (.var 1) .nil)))) .nil)))
def F_sure_chances (i_require_width i_is_integer i_unit_row : Nat) : Fn := ⟨2, 2, [], t_sure_chances i_require_width i_is_integer i_unit_row⟩
def t_even_by : Ss := (.cons (.ret (.bin .Mult (.tup (.cons (.tup (.cons (.int 1) (.cons (.var 0) .nil))) .nil)) (.var 0))) .nil)
def F_even_by : Fn := ⟨1, 1, [], t_even_by⟩
def t_even_chances (i_require_width i_even_by : Nat) : Ss := (.cons (.expr (.call i_require_width (.cons (.var 0) .nil))) (.cons (.ret (.call i_even_by (.cons (.var 0) .nil))) .nil))
def F_even_chances (i_require_width i_even_by : Nat) : Fn := ⟨1, 1, [], t_even_chances i_require_width i_even_by⟩
def t_between (i_require_width i_require_share i_require_chances i_between_by : Nat) : Ss := (.cons (.expr (.call i_require_width (.cons (.var 0) .nil))) (.cons (.expr (.call i_require_share (.cons (.var 1) .nil))) (.cons (.expr (.call i_require_chances (.cons (.var 0) (.cons (.var 2) .nil)))) (.cons (.expr (.call i_require_chances (.cons (.var 0) (.cons (.var 3) .nil)))) (.cons (.ret (.call i_between_by (.cons (.var 1) (.cons (.var 2) (.cons (.var 3) .nil))))) .nil)))))
def F_between (i_require_width i_require_share i_require_chances i_between_by : Nat) : Fn := ⟨4, 4, [], t_between i_require_width i_require_share i_require_chances i_between_by⟩
def t_spots (i_require_width i_require_chances : Nat) : Ss := (.cons (.expr (.call i_require_width (.cons (.var 0) .nil))) (.cons (.expr (.call i_require_chances (.cons (.var 0) (.cons (.var 1) .nil)))) (.cons (.ret (.bi1 .tuple (.lc (.var 2) (.tp (.cons (.nm 2) (.cons (.nm 3) .nil))) (.enum (.var 1)) (.so (.cmp .Gt (.idx (.var 3) (.int 0)) (.int 0))) 0))) .nil)))
def F_spots (i_require_width i_require_chances : Nat) : Fn := ⟨2, 4, [], t_spots i_require_width i_require_chances⟩
def t_mean (i_require_width i_require_chances i_require_line i_product_of : Nat) : Ss := (.cons (.expr (.call i_require_width (.cons (.var 0) .nil))) (.cons (.expr (.call i_require_chances (.cons (.var 0) (.cons (.var 1) .nil)))) (.cons (.expr (.call i_require_line (.cons (.var 0) (.cons (.var 2) .nil)))) (.cons (.ret (.call i_product_of (.cons (.var 1) (.cons (.var 2) .nil)))) .nil))))
def F_mean (i_require_width i_require_chances i_require_line i_product_of : Nat) : Fn := ⟨3, 3, [], t_mean i_require_width i_require_chances i_require_line i_product_of⟩
def t_behind_table (i_require_width i_require_chance_table i_require_chances i_behind_by : Nat) : Ss := (.cons (.expr (.call i_require_width (.cons (.var 0) .nil))) (.cons (.expr (.call i_require_width (.cons (.var 1) .nil))) (.cons (.expr (.call i_require_chance_table (.cons (.var 0) (.cons (.var 1) (.cons (.var 2) .nil))))) (.cons (.expr (.call i_require_chances (.cons (.var 0) (.cons (.var 3) .nil)))) (.cons (.ret (.call i_behind_by (.cons (.var 2) (.cons (.var 3) .nil)))) .nil)))))
def F_behind_table (i_require_width i_require_chance_table i_require_chances i_behind_by : Nat) : Fn := ⟨4, 4, [], t_behind_table i_require_width i_require_chance_table i_require_chances i_behind_by⟩
def t_table_behind (i_require_width i_require_chance_table i_behind_by : Nat) : Ss := (.cons (.expr (.call i_require_width (.cons (.var 0) .nil))) (.cons (.expr (.call i_require_width (.cons (.var 1) .nil))) (.cons (.expr (.call i_require_width (.cons (.var 2) .nil))) (.cons (.expr (.call i_require_chance_table (.cons (.var 0) (.cons (.var 1) (.cons (.var 3) .nil))))) (.cons (.expr (.call i_require_chance_table (.cons (.var 1) (.cons (.var 2) (.cons (.var 4) .nil))))) (.cons (.ret (.bi1 .tuple (.lc (.call i_behind_by (.cons (.var 4) (.cons (.var 5) .nil))) (.nm 5) (.seq (.var 3)) .no 0))) .nil))))))
def F_table_behind (i_require_width i_require_chance_table i_behind_by : Nat) : Fn := ⟨5, 6, [], t_table_behind i_require_width i_require_chance_table i_behind_by⟩
def t_weighed (i_require_width i_is_plain_mix i_weighed_by : Nat) : Ss := (.cons (.expr (.call i_require_width (.cons (.var 0) .nil))) (.cons (.ife (.not (.call i_is_plain_mix (.cons (.var 0) (.cons (.var 1) .nil)))) (.cons (.hole 0) .nil) .nil) (.cons (.ife (.bi1 .all (.lc (.cmp .Eq (.idx (.var 2) (.int 0)) (.int 0)) (.nm 2) (.seq (.var 1)) .no 0)) (.cons (.hole 1) .nil) .nil) (.cons (.ret (.call i_weighed_by (.cons (.var 1) .nil))) .nil))))
def F_weighed (i_require_width i_is_plain_mix i_weighed_by : Nat) : Fn := ⟨2, 3, [], t_weighed i_require_width i_is_plain_mix i_weighed_by⟩
def t_law_dice : Ss := (.cons (.asg (.nm 2) (.ife (.cmp .Lt (.var 1) (.bi1 .len (.var 0))) (.bi1 .int (.idx (.var 0) (.var 1))) (.bin .Add (.bin .Mult (.int 173) (.var 1)) (.int 59)))) (.cons (.asg (.nm 3) (.bin .Mod (.bi1 .abs (.var 2)) (.bin .Pow (.bin .Pow (.int 10) (.int 47)) (.int 7)))) (.cons (.asg (.nm 4) (.bin .Add (.bin .Add (.bin .Add (.bin .Mult (.bin .Mod (.var 3) (.int 2305843009213693669)) (.int 89)) (.bin .Mult (.int 733) (.var 1))) (.bin .Mult (.int 43) (.bi1 .int (.cmp .Lt (.var 2) (.int 0))))) (.int 29))) (.cons (.ret (.lst (.cons (.bi2 .max (.int 0) (.bin .Sub (.var 3) (.bin .Pow (.int 10) (.int 15)))) (.cons (.var 4) (.cons (.int 0) .nil))))) .nil))))
def F_law_dice : Fn := ⟨2, 5, [], t_law_dice⟩
def t_law_roll : Ss := (.cons (.ife (.cmp .Gt (.idx (.var 0) (.int 0)) (.int 0)) (.cons (.asg (.tp (.cons (.sb (.var 0) (.int 0)) (.cons (.nm 4) .nil))) (.bi2 .divmod (.idx (.var 0) (.int 0)) (.var 1))) (.cons (.ret (.bi1 .int (.var 4))) .nil)) .nil) (.cons (.asg (.sb (.var 0) (.int 2)) (.bin .Add (.idx (.var 0) (.int 2)) (.int 1))) (.cons (.asg (.nm 2) (.bin .Mod (.bin .Add (.idx (.var 0) (.int 1)) (.bin .Mult (.int 67867967) (.idx (.var 0) (.int 2)))) (.int 2305843009213693613))) (.cons (.asg (.nm 3) (.bin .Add (.bin .Mult (.bin .Mod (.bin .Add (.bin .Mult (.var 2) (.var 2)) (.bin .Mult (.int 211) (.idx (.var 0) (.int 2)))) (.int 2305843009213693487)) (.int 49979693)) (.var 2))) (.cons (.ret (.bin .Mod (.bi1 .int (.bin .FloorDiv (.var 3) (.int 70001))) (.var 1))) .nil)))))
def F_law_roll : Fn := ⟨2, 5, [], t_law_roll⟩
def t_law_pick (i_law_roll : Nat) : Ss := (.cons (.ret (.idx (.var 1) (.call i_law_roll (.cons (.var 0) (.cons (.bi1 .len (.var 1)) .nil))))) .nil)
def F_law_pick (i_law_roll : Nat) : Fn := ⟨2, 2, [], t_law_pick i_law_roll⟩
def t_law_fr : Ss := (.cons (.par2 3 4 (.bi1 .abs (.var 1)) (.bi1 .abs (.var 0))) (.cons (.whl (.cmp .Gt (.var 4) (.int 0)) (.cons (.par2 3 4 (.var 4) (.bin .Mod (.var 3) (.var 4))) .nil)) (.cons (.asg (.nm 2) (.ife (.cmp .Gt (.var 1) (.int 0)) (.int 1) (.neg (.int 1)))) (.cons (.ret (.tup (.cons (.bin .FloorDiv (.bin .Mult (.var 2) (.var 0)) (.var 3)) (.cons (.bin .FloorDiv (.bin .Mult (.var 2) (.var 1)) (.var 3)) .nil)))) .nil))))
def F_law_fr : Fn := ⟨2, 5, [], t_law_fr⟩
def t_law_plus (i_law_fr : Nat) : Ss := (.cons (.ret (.call i_law_fr (.cons (.bin .Add (.bin .Mult (.idx (.var 0) (.int 0)) (.idx (.var 1) (.int 1))) (.bin .Mult (.idx (.var 1) (.int 0)) (.idx (.var 0) (.int 1)))) (.cons (.bin .Mult (.idx (.var 1) (.int 1)) (.idx (.var 0) (.int 1))) .nil)))) .nil)
def F_law_plus (i_law_fr : Nat) : Fn := ⟨2, 2, [], t_law_plus i_law_fr⟩
def t_law_minus (i_law_fr : Nat) : Ss := (.cons (.ret (.call i_law_fr (.cons (.bin .Sub (.bin .Mult (.idx (.var 0) (.int 0)) (.idx (.var 1) (.int 1))) (.bin .Mult (.idx (.var 1) (.int 0)) (.idx (.var 0) (.int 1)))) (.cons (.bin .Mult (.idx (.var 1) (.int 1)) (.idx (.var 0) (.int 1))) .nil)))) .nil)
def F_law_minus (i_law_fr : Nat) : Fn := ⟨2, 2, [], t_law_minus i_law_fr⟩
def t_law_times (i_law_fr : Nat) : Ss := (.cons (.ret (.call i_law_fr (.cons (.bin .Mult (.idx (.var 1) (.int 0)) (.idx (.var 0) (.int 0))) (.cons (.bin .Mult (.idx (.var 1) (.int 1)) (.idx (.var 0) (.int 1))) .nil)))) .nil)
def F_law_times (i_law_fr : Nat) : Fn := ⟨2, 2, [], t_law_times i_law_fr⟩
def t_law_is_under : Ss := (.cons (.ret (.cmp .Lt (.bin .Mult (.idx (.var 0) (.int 0)) (.idx (.var 1) (.int 1))) (.bin .Mult (.idx (.var 1) (.int 0)) (.idx (.var 0) (.int 1))))) .nil)
def F_law_is_under : Fn := ⟨2, 2, [], t_law_is_under⟩
def t_law_dot (i_law_plus i_law_times : Nat) : Ss := (.cons (.asg (.nm 2) (.tup (.cons (.int 0) (.cons (.int 1) .nil)))) (.cons (.for (.tp (.cons (.nm 3) (.cons (.nm 4) .nil))) (.zip (.var 0) (.var 1)) (.cons (.ife (.cmp .NotIn (.int 0) (.tup (.cons (.idx (.var 3) (.int 0)) (.cons (.idx (.var 4) (.int 0)) .nil)))) (.cons (.asg (.nm 2) (.call i_law_plus (.cons (.var 2) (.cons (.call i_law_times (.cons (.var 3) (.cons (.var 4) .nil))) .nil)))) .nil) .nil) .nil)) (.cons (.ret (.var 2)) .nil)))
def F_law_dot (i_law_plus i_law_times : Nat) : Fn := ⟨2, 5, [], t_law_dot i_law_plus i_law_times⟩
def t_law_is_number (i_law_fr : Nat) : Ss := (.cons (.ife (.bop .Or (.cons (.not (.isi (.var 0) .tuple)) (.cons (.cmp .NotEq (.bi1 .len (.var 0)) (.int 2)) .nil))) (.cons (.ret (.bl false)) .nil) .nil) (.cons (.for (.nm 1) (.seq (.var 0)) (.cons (.ife (.bop .Or (.cons (.not (.isi (.var 1) .int)) (.cons (.isi (.var 1) .bool) .nil))) (.cons (.ret (.bl false)) .nil) .nil) .nil)) (.cons (.ret (.bop .And (.cons (.cmp .Gt (.idx (.var 0) (.int 1)) (.int 0)) (.cons (.cmp .Eq (.call i_law_fr (.cons (.idx (.var 0) (.int 0)) (.cons (.idx (.var 0) (.int 1)) .nil))) (.var 0)) .nil)))) .nil)))
def F_law_is_number (i_law_fr : Nat) : Fn := ⟨1, 2, [], t_law_is_number i_law_fr⟩
def t_law_is_row (i_law_is_number : Nat) : Ss := (.cons (.ife (.bop .Or (.cons (.not (.isi (.var 1) .tuple)) (.cons (.cmp .NotEq (.bi1 .len (.var 1)) (.var 0)) .nil))) (.cons (.ret (.bl false)) .nil) .nil) (.cons (.ret (.cmp .Eq (.lc (.var 2) (.nm 2) (.seq (.var 1)) (.so (.not (.call i_law_is_number (.cons (.var 2) .nil)))) 0) (.lst .nil))) .nil))
def F_law_is_row (i_law_is_number : Nat) : Fn := ⟨2, 3, [], t_law_is_row i_law_is_number⟩
def t_law_sum_of (i_law_plus : Nat) : Ss := (.cons (.ret (.bi1 .tuple (.lc (.call i_law_plus (.cons (.var 2) (.cons (.var 3) .nil))) (.tp (.cons (.nm 2) (.cons (.nm 3) .nil))) (.zip (.var 0) (.var 1)) .no 0))) .nil)
def F_law_sum_of (i_law_plus : Nat) : Fn := ⟨2, 4, [], t_law_sum_of i_law_plus⟩
def t_law_by (i_law_times : Nat) : Ss := (.cons (.ret (.bi1 .tuple (.lc (.call i_law_times (.cons (.var 0) (.cons (.var 2) .nil))) (.nm 2) (.seq (.var 1)) .no 0))) .nil)
def F_law_by (i_law_times : Nat) : Fn := ⟨2, 3, [], t_law_by i_law_times⟩
def t_law_sr_unit : Ss := (.cons (.ret (.bi1 .tuple (.lc (.tup (.cons (.bi1 .int (.cmp .Eq (.var 2) (.var 1))) (.cons (.int 1) .nil))) (.nm 2) (.rng1 (.var 0)) .no 0))) .nil)
def F_law_sr_unit : Fn := ⟨2, 3, [], t_law_sr_unit⟩
def t_law_sr_number (i_law_fr i_law_roll i_law_pick : Nat) : Ss := (.cons (.ret (.call i_law_fr (.cons (.bin .Sub (.call i_law_roll (.cons (.var 0) (.cons (.int 13) .nil))) (.int 6)) (.cons (.call i_law_pick (.cons (.var 0) (.cons (.lst (.cons (.int 1) (.cons (.int 1) (.cons (.int 2) (.cons (.int 3) .nil))))) .nil))) .nil)))) .nil)
def F_law_sr_number (i_law_fr i_law_roll i_law_pick : Nat) : Fn := ⟨1, 1, [], t_law_sr_number i_law_fr i_law_roll i_law_pick⟩
def t_law_sr_row (i_law_sr_number : Nat) : Ss := (.cons (.ret (.bi1 .tuple (.lc (.call i_law_sr_number (.cons (.var 0) .nil)) (.nm 2) (.rng1 (.var 1)) .no 0))) .nil)
def F_law_sr_row (i_law_sr_number : Nat) : Fn := ⟨2, 3, [], t_law_sr_row i_law_sr_number⟩
def t_law_sr_chances (i_law_roll i_law_fr : Nat) : Ss := (.cons (.asg (.nm 2) (.lc (.call i_law_roll (.cons (.var 0) (.cons (.int 4) .nil))) (.nm 6) (.rng1 (.var 1)) .no 0)) (.cons (.asg (.tp (.cons (.nm 4) (.cons (.nm 5) .nil))) (.tup (.cons (.call i_law_roll (.cons (.var 0) (.cons (.var 1) .nil))) (.cons (.int 0) .nil)))) (.cons (.asg (.sb (.var 2) (.var 4)) (.bin .Add (.idx (.var 2) (.var 4)) (.int 1))) (.cons (.for (.nm 3) (.seq (.var 2)) (.cons (.asg (.nm 5) (.bin .Add (.var 5) (.var 3))) .nil)) (.cons (.ret (.bi1 .tuple (.lc (.call i_law_fr (.cons (.var 3) (.cons (.var 5) .nil))) (.nm 3) (.seq (.var 2)) .no 1))) .nil)))))
def F_law_sr_chances (i_law_roll i_law_fr : Nat) : Fn := ⟨2, 7, [], t_law_sr_chances i_law_roll i_law_fr⟩
def t_law_sr_is_chances (i_law_is_row i_law_plus : Nat) : Ss := (.cons (.ife (.bop .Or (.cons (.not (.call i_law_is_row (.cons (.var 0) (.cons (.var 1) .nil)))) (.cons (.cmp .NotEq (.lc (.int 1) (.nm 3) (.seq (.var 1)) (.so (.cmp .Lt (.idx (.var 3) (.int 0)) (.int 0))) 0) (.lst .nil)) .nil))) (.cons (.ret (.bl false)) .nil) .nil) (.cons (.asg (.nm 2) (.tup (.cons (.int 0) (.cons (.int 1) .nil)))) (.cons (.for (.nm 3) (.seq (.var 1)) (.cons (.asg (.nm 2) (.call i_law_plus (.cons (.var 2) (.cons (.var 3) .nil)))) .nil)) (.cons (.ret (.cmp .Eq (.var 2) (.tup (.cons (.int 1) (.cons (.int 1) .nil))))) .nil))))
def F_law_sr_is_chances (i_law_is_row i_law_plus : Nat) : Fn := ⟨2, 4, [], t_law_sr_is_chances i_law_is_row i_law_plus⟩
def t_law_is_table (i_law_sr_is_chances : Nat) : Ss := (.cons (.ife (.bop .Or (.cons (.not (.isi (.var 2) .tuple)) (.cons (.cmp .NotEq (.bi1 .len (.var 2)) (.var 0)) .nil))) (.cons (.ret (.bl false)) .nil) .nil) (.cons (.ret (.cmp .Eq (.lc (.int 1) (.nm 3) (.seq (.var 2)) (.so (.not (.call i_law_sr_is_chances (.cons (.var 1) (.cons (.var 3) .nil))))) 0) (.lst .nil))) .nil))
def F_law_is_table (i_law_sr_is_chances : Nat) : Fn := ⟨3, 4, [], t_law_is_table i_law_sr_is_chances⟩
def t_law_near (i_law_roll i_law_plus i_law_minus i_law_times : Nat) : Ss := (.cons (.asg (.nm 2) (.call i_law_roll (.cons (.var 0) (.cons (.bi1 .len (.var 1)) .nil)))) (.cons (.asg (.nm 3) (.lst (.cons (.var 1) (.cons (.bi1 .list (.var 1)) (.cons (.slc (.var 1) (.so (.int 1)) .no) (.cons (.bin .Add (.var 1) (.tup (.cons (.tup (.cons (.int 0) (.cons (.int 1) .nil))) .nil))) (.cons .non (.cons (.tup .nil) (.cons (.int 0) (.cons .dct0 .nil)))))))))) (.cons (.asg (.nm 4) (.idx (.var 1) (.var 2))) (.cons (.for (.nm 5) (.seq (.tup (.cons (.tup (.cons (.int 0) (.cons (.int 1) .nil))) (.cons (.tup (.cons (.int 1) (.cons (.int 1) .nil))) (.cons (.call i_law_plus (.cons (.var 4) (.cons (.tup (.cons (.int 1) (.cons (.int 9) .nil))) .nil))) (.cons (.call i_law_minus (.cons (.var 4) (.cons (.tup (.cons (.int 1) (.cons (.int 1) .nil))) .nil))) (.cons (.tup (.cons (.int 2) (.cons (.int 2) .nil))) (.cons (.int 1) (.cons .non (.cons (.tup (.cons (.bl true) (.cons (.int 1) .nil))) (.cons (.tup (.cons (.int 1) (.cons (.int 0) .nil))) .nil))))))))))) (.cons (.expr (.met .append (.var 3) (.bin .Add (.bin .Add (.slc (.var 1) .no (.so (.var 2))) (.tup (.cons (.var 5) .nil))) (.slc (.var 1) (.so (.bin .Add (.var 2) (.int 1))) .no)))) .nil)) (.cons (.ife (.cmp .Gt (.bi1 .len (.var 1)) (.int 1)) (.cons (.asg (.nm 6) (.bin .Mod (.bin .Add (.var 2) (.int 1)) (.bi1 .len (.var 1)))) (.cons (.asg (.nm 7) (.bi1 .list (.var 1))) (.cons (.asg (.tp (.cons (.sb (.var 7) (.var 2)) (.cons (.sb (.var 7) (.var 6)) .nil))) (.tup (.cons (.call i_law_minus (.cons (.var 4) (.cons (.tup (.cons (.int 2) (.cons (.int 1) .nil))) .nil))) (.cons (.call i_law_plus (.cons (.idx (.var 1) (.var 6)) (.cons (.tup (.cons (.int 2) (.cons (.int 1) .nil))) .nil))) .nil)))) (.cons (.expr (.met .append (.var 3) (.bi1 .tuple (.var 7)))) .nil)))) .nil) (.cons (.ret (.bin .Add (.var 3) (.lst (.cons (.bi1 .tuple (.lc (.call i_law_times (.cons (.tup (.cons (.int 2) (.cons (.int 1) .nil))) (.cons (.var 4) .nil))) (.nm 4) (.seq (.var 1)) .no 0)) (.cons (.rev (.var 1)) (.cons (.str "chances") .nil)))))) .nil))))))
def F_law_near (i_law_roll i_law_plus i_law_minus i_law_times : Nat) : Fn := ⟨2, 8, [], t_law_near i_law_roll i_law_plus i_law_minus i_law_times⟩
def t_law_judged_right (i_law_near i_is_chances i_law_sr_is_chances i_law_roll i_is_chance_table i_law_is_table : Nat) : Ss := (.cons (.for (.nm 4) (.seq (.call i_law_near (.cons (.var 0) (.cons (.var 2) .nil)))) (.cons (.ife (.cmp .NotEq (.bi1 .repr (.call i_is_chances (.cons (.var 1) (.cons (.var 4) .nil)))) (.bi1 .repr (.call i_law_sr_is_chances (.cons (.var 1) (.cons (.var 4) .nil))))) (.cons (.ret (.bl false)) .nil) .nil) .nil)) (.cons (.par2 7 8 (.bi1 .len (.var 3)) (.call i_law_roll (.cons (.var 0) (.cons (.bi1 .len (.var 3)) .nil)))) (.cons (.asg (.nm 5) (.lst (.cons (.var 3) (.cons (.bi1 .list (.var 3)) (.cons (.slc (.var 3) (.so (.int 1)) .no) (.cons (.bin .Add (.var 3) (.slc (.var 3) .no (.so (.int 1)))) (.cons .non (.cons (.tup .nil) (.cons (.var 2) (.cons .dct0 (.cons (.bin .Mult (.tup (.cons (.var 2) .nil)) (.var 7)) .nil))))))))))) (.cons (.for (.nm 6) (.seq (.call i_law_near (.cons (.var 0) (.cons (.idx (.var 3) (.var 8)) .nil)))) (.cons (.expr (.met .append (.var 5) (.bin .Add (.bin .Add (.slc (.var 3) .no (.so (.var 8))) (.tup (.cons (.var 6) .nil))) (.slc (.var 3) (.so (.bin .Add (.var 8) (.int 1))) .no)))) .nil)) (.cons (.for (.nm 4) (.seq (.var 5)) (.cons (.ife (.cmp .NotEq (.bi1 .repr (.call i_is_chance_table (.cons (.var 7) (.cons (.var 1) (.cons (.var 4) .nil))))) (.bi1 .repr (.call i_law_is_table (.cons (.var 7) (.cons (.var 1) (.cons (.var 4) .nil)))))) (.cons (.ret (.bl false)) .nil) .nil) .nil)) (.cons (.ret (.bl true)) .nil))))))
def F_law_judged_right (i_law_near i_is_chances i_law_sr_is_chances i_law_roll i_is_chance_table i_law_is_table : Nat) : Fn := ⟨4, 9, [], t_law_judged_right i_law_near i_is_chances i_law_sr_is_chances i_law_roll i_is_chance_table i_law_is_table⟩
def t_law_between (i_law_sum_of i_law_by i_law_minus : Nat) : Ss := (.cons (.ret (.call i_law_sum_of (.cons (.call i_law_by (.cons (.var 0) (.cons (.var 1) .nil))) (.cons (.call i_law_by (.cons (.call i_law_minus (.cons (.tup (.cons (.int 1) (.cons (.int 1) .nil))) (.cons (.var 0) .nil))) (.cons (.var 2) .nil))) .nil)))) .nil)
def F_law_between (i_law_sum_of i_law_by i_law_minus : Nat) : Fn := ⟨3, 3, [], t_law_between i_law_sum_of i_law_by i_law_minus⟩
def t_law_lone_right (i_law_roll i_law_fr i_sure_chances i_law_sr_unit i_even_chances i_between i_law_between i_is_chances i_mean i_law_dot i_law_plus i_law_times i_law_minus i_law_by i_spots i_weighed i_law_is_under : Nat) : Ss := (.cons (.par2 11 12 (.call i_law_roll (.cons (.var 0) (.cons (.var 1) .nil))) (.call i_law_fr (.cons (.call i_law_roll (.cons (.var 0) (.cons (.int 8) .nil))) (.cons (.int 7) .nil)))) (.cons (.ife (.bop .Or (.cons (.cmp .NotEq (.call i_sure_chances (.cons (.var 1) (.cons (.var 11) .nil))) (.call i_law_sr_unit (.cons (.var 1) (.cons (.var 11) .nil)))) (.cons (.cmp .NotEq (.call i_even_chances (.cons (.var 1) .nil)) (.bin .Mult (.tup (.cons (.tup (.cons (.int 1) (.cons (.var 1) .nil))) .nil)) (.var 1))) .nil))) (.cons (.ret (.bl false)) .nil) .nil) (.cons (.asg (.nm 5) (.call i_between (.cons (.var 1) (.cons (.var 12) (.cons (.var 2) (.cons (.var 3) .nil)))))) (.cons (.ife (.bop .Or (.cons (.cmp .NotEq (.var 5) (.call i_law_between (.cons (.var 12) (.cons (.var 2) (.cons (.var 3) .nil))))) (.cons (.cmp .IsNot (.call i_is_chances (.cons (.var 1) (.cons (.var 5) .nil))) (.bl true)) .nil))) (.cons (.ret (.bl false)) .nil) .nil) (.cons (.ife (.bop .Or (.cons (.cmp .NotEq (.call i_mean (.cons (.var 1) (.cons (.var 2) (.cons (.var 4) .nil)))) (.call i_law_dot (.cons (.var 2) (.cons (.var 4) .nil)))) (.cons (.cmp .NotEq (.call i_mean (.cons (.var 1) (.cons (.call i_sure_chances (.cons (.var 1) (.cons (.var 11) .nil))) (.cons (.var 4) .nil)))) (.idx (.var 4) (.var 11))) .nil))) (.cons (.ret (.bl false)) .nil) .nil) (.cons (.asg (.nm 6) (.call i_law_plus (.cons (.call i_law_times (.cons (.var 12) (.cons (.call i_mean (.cons (.var 1) (.cons (.var 2) (.cons (.var 4) .nil)))) .nil))) (.cons (.call i_law_times (.cons (.call i_law_minus (.cons (.tup (.cons (.int 1) (.cons (.int 1) .nil))) (.cons (.var 12) .nil))) (.cons (.call i_mean (.cons (.var 1) (.cons (.var 3) (.cons (.var 4) .nil)))) .nil))) .nil)))) (.cons (.ife (.cmp .NotEq (.call i_mean (.cons (.var 1) (.cons (.var 5) (.cons (.var 4) .nil)))) (.var 6)) (.cons (.ret (.bl false)) .nil) .nil) (.cons (.asg (.nm 7) (.bi1 .tuple (.lc (.var 14) (.tp (.cons (.nm 14) (.cons (.nm 13) .nil))) (.enum (.var 2)) (.so (.cmp .Gt (.idx (.var 13) (.int 0)) (.int 0))) 0))) (.cons (.asg (.nm 8) (.call i_law_by (.cons (.call i_law_fr (.cons (.bin .Add (.int 1) (.call i_law_roll (.cons (.var 0) (.cons (.int 9) .nil)))) (.cons (.bin .Add (.int 1) (.call i_law_roll (.cons (.var 0) (.cons (.int 4) .nil)))) .nil))) (.cons (.var 2) .nil)))) (.cons (.ife (.bop .Or (.cons (.cmp .NotEq (.call i_spots (.cons (.var 1) (.cons (.var 2) .nil))) (.var 7)) (.cons (.cmp .NotEq (.call i_weighed (.cons (.var 1) (.cons (.var 8) .nil))) (.var 2)) .nil))) (.cons (.ret (.bl false)) .nil) .nil) (.cons (.asg (.nm 9) (.lc (.var 13) (.nm 13) (.seq (.var 4)) (.so (.call i_law_is_under (.cons (.call i_mean (.cons (.var 1) (.cons (.var 2) (.cons (.var 4) .nil)))) (.cons (.var 13) .nil)))) 1)) (.cons (.asg (.nm 10) (.lc (.var 13) (.nm 13) (.seq (.var 4)) (.so (.call i_law_is_under (.cons (.var 13) (.cons (.call i_mean (.cons (.var 1) (.cons (.var 2) (.cons (.var 4) .nil)))) .nil)))) 2)) (.cons (.ret (.bop .And (.cons (.cmp .Lt (.bi1 .len (.var 9)) (.var 1)) (.cons (.cmp .Lt (.bi1 .len (.var 10)) (.var 1)) .nil)))) .nil)))))))))))))
def F_law_lone_right (i_law_roll i_law_fr i_sure_chances i_law_sr_unit i_even_chances i_between i_law_between i_is_chances i_mean i_law_dot i_law_plus i_law_times i_law_minus i_law_by i_spots i_weighed i_law_is_under : Nat) : Fn := ⟨5, 15, [], t_law_lone_right i_law_roll i_law_fr i_sure_chances i_law_sr_unit i_even_chances i_between i_law_between i_is_chances i_mean i_law_dot i_law_plus i_law_times i_law_minus i_law_by i_spots i_weighed i_law_is_under⟩
def t_law_forth (i_law_sum_of i_law_by : Nat) : Ss := (.cons (.asg (.nm 3) (.bin .Mult (.tup (.cons (.tup (.cons (.int 0) (.cons (.int 1) .nil))) .nil)) (.var 0))) (.cons (.for (.tp (.cons (.nm 4) (.cons (.nm 5) .nil))) (.zip (.var 2) (.var 1)) (.cons (.asg (.nm 3) (.call i_law_sum_of (.cons (.var 3) (.cons (.call i_law_by (.cons (.var 4) (.cons (.var 5) .nil))) .nil)))) .nil)) (.cons (.ret (.var 3)) .nil)))
def F_law_forth (i_law_sum_of i_law_by : Nat) : Fn := ⟨3, 6, [], t_law_forth i_law_sum_of i_law_by⟩
def t_law_tables_right (i_law_roll i_law_sr_chances i_law_fr i_behind_table i_law_forth i_is_chances i_law_between i_table_behind : Nat) : Ss := (.cons (.asg (.tp (.cons (.nm 7) (.cons (.nm 8) .nil))) (.tup (.cons (.bin .Add (.int 1) (.call i_law_roll (.cons (.var 0) (.cons (.int 4) .nil)))) (.cons (.bin .Add (.int 1) (.call i_law_roll (.cons (.var 0) (.cons (.int 4) .nil)))) .nil)))) (.cons (.asg (.nm 2) (.bi1 .tuple (.lc (.call i_law_sr_chances (.cons (.var 0) (.cons (.var 8) .nil))) (.nm 12) (.rng1 (.var 7)) .no 0))) (.cons (.asg (.nm 3) (.bi1 .tuple (.lc (.call i_law_sr_chances (.cons (.var 0) (.cons (.var 1) .nil))) (.nm 12) (.rng1 (.var 8)) .no 1))) (.cons (.par3 9 10 11 (.call i_law_sr_chances (.cons (.var 0) (.cons (.var 7) .nil))) (.call i_law_sr_chances (.cons (.var 0) (.cons (.var 7) .nil))) (.call i_law_fr (.cons (.call i_law_roll (.cons (.var 0) (.cons (.int 6) .nil))) (.cons (.int 5) .nil)))) (.cons (.asg (.nm 4) (.call i_behind_table (.cons (.var 7) (.cons (.var 8) (.cons (.var 2) (.cons (.var 9) .nil)))))) (.cons (.ife (.bop .Or (.cons (.cmp .NotEq (.var 4) (.call i_law_forth (.cons (.var 8) (.cons (.var 2) (.cons (.var 9) .nil))))) (.cons (.cmp .IsNot (.call i_is_chances (.cons (.var 8) (.cons (.var 4) .nil))) (.bl true)) .nil))) (.cons (.ret (.bl false)) .nil) .nil) (.cons (.asg (.nm 5) (.call i_behind_table (.cons (.var 7) (.cons (.var 8) (.cons (.var 2) (.cons (.var 10) .nil)))))) (.cons (.ife (.cmp .NotEq (.call i_behind_table (.cons (.var 7) (.cons (.var 8) (.cons (.var 2) (.cons (.call i_law_between (.cons (.var 11) (.cons (.var 9) (.cons (.var 10) .nil)))) .nil))))) (.call i_law_between (.cons (.var 11) (.cons (.var 4) (.cons (.var 5) .nil))))) (.cons (.ret (.bl false)) .nil) .nil) (.cons (.asg (.nm 6) (.call i_table_behind (.cons (.var 7) (.cons (.var 8) (.cons (.var 1) (.cons (.var 2) (.cons (.var 3) .nil))))))) (.cons (.ife (.cmp .NotEq (.var 6) (.bi1 .tuple (.lc (.call i_law_forth (.cons (.var 1) (.cons (.var 3) (.cons (.var 13) .nil)))) (.nm 13) (.seq (.var 2)) .no 2))) (.cons (.ret (.bl false)) .nil) .nil) (.cons (.ret (.cmp .Eq (.call i_behind_table (.cons (.var 7) (.cons (.var 1) (.cons (.var 6) (.cons (.var 9) .nil))))) (.call i_behind_table (.cons (.var 8) (.cons (.var 1) (.cons (.var 3) (.cons (.var 4) .nil))))))) .nil)))))))))))
def F_law_tables_right (i_law_roll i_law_sr_chances i_law_fr i_behind_table i_law_forth i_is_chances i_law_between i_table_behind : Nat) : Fn := ⟨2, 14, [], t_law_tables_right i_law_roll i_law_sr_chances i_law_fr i_behind_table i_law_forth i_is_chances i_law_between i_table_behind⟩
def t_law_right (i_law_roll i_law_sr_chances i_law_sr_row i_law_judged_right i_law_tables_right i_law_lone_right : Nat) : Ss := (.cons (.asg (.nm 1) (.bin .Add (.int 1) (.call i_law_roll (.cons (.var 0) (.cons (.int 4) .nil))))) (.cons (.par3 3 4 5 (.call i_law_sr_chances (.cons (.var 0) (.cons (.var 1) .nil))) (.call i_law_sr_chances (.cons (.var 0) (.cons (.var 1) .nil))) (.call i_law_sr_row (.cons (.var 0) (.cons (.var 1) .nil)))) (.cons (.asg (.nm 2) (.bi1 .tuple (.lc (.call i_law_sr_chances (.cons (.var 0) (.cons (.var 1) .nil))) (.nm 6) (.rng1 (.bin .Add (.int 1) (.call i_law_roll (.cons (.var 0) (.cons (.int 4) .nil))))) .no 0))) (.cons (.ife (.bop .Or (.cons (.not (.call i_law_judged_right (.cons (.var 0) (.cons (.var 1) (.cons (.var 3) (.cons (.var 2) .nil)))))) (.cons (.not (.call i_law_tables_right (.cons (.var 0) (.cons (.var 1) .nil)))) .nil))) (.cons (.ret (.bl false)) .nil) .nil) (.cons (.ret (.call i_law_lone_right (.cons (.var 0) (.cons (.var 1) (.cons (.var 3) (.cons (.var 4) (.cons (.var 5) .nil))))))) .nil)))))
def F_law_right (i_law_roll i_law_sr_chances i_law_sr_row i_law_judged_right i_law_tables_right i_law_lone_right : Nat) : Fn := ⟨1, 7, [], t_law_right i_law_roll i_law_sr_chances i_law_sr_row i_law_judged_right i_law_tables_right i_law_lone_right⟩
def t_law (i_law_dice i_law_right i_spots i_even_chances : Nat) : Ss := (.cons (.for (.nm 1) (.rng1 (.bi2 .max (.int 1) (.bi2 .min (.int 5) (.bi1 .len (.var 0))))) (.cons (.asg (.nm 2) (.call i_law_dice (.cons (.var 0) (.cons (.var 1) .nil)))) (.cons (.for (.nm 3) (.rng1 (.int 4)) (.cons (.ife (.not (.call i_law_right (.cons (.var 2) .nil))) (.cons (.ret (.bl false)) .nil) .nil) .nil)) .nil))) (.cons (.ret (.bop .And (.cons (.cmp .Eq (.call i_spots (.cons (.int 3) (.cons (.tup (.cons (.tup (.cons (.int 1) (.cons (.int 2) .nil))) (.cons (.tup (.cons (.int 0) (.cons (.int 1) .nil))) (.cons (.tup (.cons (.int 1) (.cons (.int 2) .nil))) .nil)))) .nil))) (.tup (.cons (.int 0) (.cons (.int 2) .nil)))) (.cons (.cmp .Eq (.call i_even_chances (.cons (.int 8) .nil)) (.bin .Mult (.tup (.cons (.tup (.cons (.int 1) (.cons (.int 8) .nil))) .nil)) (.int 8))) .nil)))) .nil))
def F_law (i_law_dice i_law_right i_spots i_even_chances : Nat) : Fn := ⟨1, 4, [], t_law i_law_dice i_law_right i_spots i_even_chances⟩
end Q
end
section
-- M6
set_option Elab.async false
set_option linter.all false
set_option maxRecDepth 100000
namespace Q
open PySem (Str Operator CmpOp BoolOp PyData Paired)
/-- a call that leaves the store as it is -/
structure Sp (C : Q.Ctx) (d i : Nat) (ds : List D) (r : R) : Prop where
  fill : Q.fill C i ds = some ds
  run : ∀ n S, evCall C (n + d) i ds S = .ok r S
section
variable {C : Q.Ctx} {call : Nat → List D → Store → Res R} {S : Store}
theorem Sp.by {d i : Nat} {F : Fn} {ds : List D} {r : R} (h : C.fns[i]? = some F) (hl : ds.length = F.np) (e : ∀ n S, evSs C (evCall C (n + d)) F.body (start F ds) S = .ok (.rt r) S) : Sp C (d + 1) i ds r := ⟨fill_of h hl, fun n S => ev_pure h hl (e n S)⟩
theorem Sp.up {d e i : Nat} {ds : List D} {r : R} (h : Sp C d i ds r) (z : d ≤ e) : Sp C e i ds r := ⟨h.fill, fun n S => by
  have := h.run (n + (e - d)) S
  rwa [show n + (e - d) + d = n + e by omega] at this⟩
theorem Sp.of {d i : Nat} {F : Fn} {ds : List D} {r : R} (h : C.fns[i]? = some F) (hl : ds.length = F.np) (e : ∀ n S, evCall C (n + d) i ds S = .ok r S) : Sp C d i ds r := ⟨fill_of h hl, e⟩
/-! ### comprehensions, loops -/
theorem overL_filter {α : Type} {f : α → D} {step : D → Store → Res (Option D)} {p : α → Bool} {g : α → D} : ∀ (l : List α) (acc : List D), (∀ a ∈ l, step (f a) S = .ok (if p a then some (g a) else none) S) → overL step (l.map f) acc S = .ok (acc ++ (l.filter p).map g) S
  | [], acc, h => by
    rw [List.map_nil, overL]
    simp
  | d :: r, acc, h => by
    rw [List.map_cons, overL, h d List.mem_cons_self]
    cases hp : p d with
    | true =>
      simp only [Res.bind_ok, if_true, List.filter_cons, hp, List.map_cons]
      rw [overL_filter r _ fun x hx => h x (List.mem_cons_of_mem _ hx), List.append_assoc]
      rfl
    | false =>
      simp only [Res.bind_ok, Bool.false_eq_true, if_false, List.filter_cons, hp]
      exact overL_filter r _ fun x hx => h x (List.mem_cons_of_mem _ hx)
theorem lc_filter {α : Type} {f : α → D} {elt : E} {tg : T} {it : It} {c : Eo} {k : Nat} {ρ : Env} {l : List α} {p : α → Bool} {g : α → D} (hI : evI C call it ρ S = .ok (.its (l.map f)) S)
    (h : ∀ a ∈ l, ∃ ρ', asT C call tg (f a) (Q.wipe ρ tg.slots) S = .ok ρ' S ∧ evC C call c ρ' S = .ok (p a) S ∧ (p a = true → evE C call elt ρ' S = .ok (.v (g a)) S)) : evE C call (.lc elt tg it c k) ρ S = .ok (.t ((l.filter p).map g)) S := by
  have e := overL_filter (S := S) (f := f) (step := fun d S => (asT C call tg d (Q.wipe ρ tg.slots) S).bind fun ρ S => (evC C call c ρ S).bind fun k S =>
        if k then (evE C call elt ρ S).bind fun y S => Q.settle y S fun d S => .ok (some d) S else .ok none S) (p := p) (g := g) l [] fun d hd => by
    obtain ⟨ρ', h1, h2, h3⟩ := h d hd
    show (asT C call tg (f d) (Q.wipe ρ tg.slots) S).bind _ = _
    rw [h1]
    show (evC C call c ρ' S).bind _ = _
    rw [h2]
    cases hp : p d with
    | true =>
      show (evE C call elt ρ' S).bind _ = _
      rw [h3 hp]
      rfl
    | false => rfl
  rw [evE, hI]
  show (calm (overL _ (l.map f) [] S)).bind _ = _
  rw [e, List.nil_append]
  rfl
theorem lc_map {α : Type} {f : α → D} {elt : E} {tg : T} {it : It} {k : Nat} {ρ : Env} {l : List α} {g : α → D} (hI : evI C call it ρ S = .ok (.its (l.map f)) S)
    (h : ∀ a ∈ l, ∃ ρ', asT C call tg (f a) (Q.wipe ρ tg.slots) S = .ok ρ' S ∧ evE C call elt ρ' S = .ok (.v (g a)) S) : evE C call (.lc elt tg it .no k) ρ S = .ok (.t (l.map g)) S := by
  have := lc_filter (c := .no) (k := k) (p := fun _ => true) hI fun d hd => by
    obtain ⟨ρ', h1, h2⟩ := h d hd
    exact ⟨ρ', h1, by rw [evC], fun _ => h2⟩
  rw [this, List.filter_eq_self.mpr fun _ _ => rfl]
/-- a loop over known items; R holds of what was walked -/
theorem forL_ind {turn : D → Env → Store → Res Fl} {all : List D} (R : List D → Env → Store → Prop) (h : ∀ done d rest ρ S, done ++ d :: rest = all → R done ρ S → ∃ ρ' S', (turn d ρ S = .ok (.nx ρ') S' ∨ turn d ρ S = .ok (.ct ρ') S') ∧ R (done ++ [d]) ρ' S') :
    ∀ (ds done : List D) (ρ : Env) (S : Store), done ++ ds = all → R done ρ S → ∃ ρ' S', forL turn ds ρ S = .ok (.nx ρ') S' ∧ R all ρ' S'
  | [], done, ρ, S, e, r => ⟨ρ, S, by rw [forL], by rw [List.append_nil] at e; rw [← e]; exact r⟩
  | d :: rest, done, ρ, S, e, r => by
    obtain ⟨ρ', S', e1, r'⟩ := h done d rest ρ S e r
    obtain ⟨ρ2, S2, e2, r2⟩ := forL_ind R h rest (done ++ [d]) ρ' S' (by rw [List.append_assoc]; exact e) r'
    refine ⟨ρ2, S2, ?_, r2⟩
    rw [forL]
    rcases e1 with e1 | e1 <;> (rw [e1]; exact e2)
end
end Q
end
section
-- M7
set_option Elab.async false
set_option linter.all false
set_option maxRecDepth 100000
namespace Q
open PySem (Str Operator CmpOp BoolOp PyData Paired)
/-! ### what calls promise -/
def SAdd (C : Q.Ctx) (d i : Nat) : Prop := ∀ k l p q, Sz k p → Sz l q → k + l ≤ 4000 → Sp C d i [num p, num q] (.v (num (p + q)))
def SMul (C : Q.Ctx) (d i : Nat) : Prop := ∀ k l p q, Sz k p → Sz l q → k + l ≤ 4000 → Sp C d i [num p, num q] (.v (num (p * q)))
def SSub (C : Q.Ctx) (d i : Nat) : Prop := ∀ k l p q, Sz k p → Sz l q → k + l ≤ 4000 → Sp C d i [num p, num q] (.v (num (p - q)))
def SDiv (C : Q.Ctx) (d i : Nat) : Prop := ∀ k l p q, Sz k p → Sz l q → q ≠ 0 → k + l ≤ 4000 → Sp C d i [num p, num q] (.v (num (p / q)))
def SNeg (C : Q.Ctx) (d i : Nat) : Prop := ∀ p, Sp C d i [num p] (.v (num (-p)))
def SLess (C : Q.Ctx) (d i : Nat) : Prop := ∀ k l p q, Sz k p → Sz l q → k + l ≤ 4000 → Sp C d i [num p, num q] (.v (.bl (decide (p < q))))
/-- rows -/
def SAddR (C : Q.Ctx) (d i : Nat) : Prop := ∀ k l p q, (∀ x ∈ p, Sz k x) → (∀ x ∈ q, Sz l x) → k + l ≤ 4000 → Sp C d i [row p, row q] (.v (row (List.zipWith (· + ·) p q)))
def SMulR (C : Q.Ctx) (d i : Nat) : Prop := ∀ k l p q, Sz k p → (∀ x ∈ q, Sz l x) → k + l ≤ 4000 → Sp C d i [num p, row q] (.v (row (q.map (p * ·))))
section
variable {C : Q.Ctx} {call : Nat → List D → Store → Res R} {S : Store}
theorem asT_nm {i : Nat} {d : D} {ρ : Env} : asT C call (.nm i) d ρ S = .ok (ρ.set i (some d)) S := by rw [asT]
theorem evI_row {e : E} {ρ : Env} {ds : List D} (h : evE C call e ρ S = .ok (.v (.tup ds)) S) : evI C call (.seq e) ρ S = .ok (.its ds) S := by
  rw [evI, h]
  rfl
theorem evI_t {e : E} {ρ : Env} {ds : List D} (h : evE C call e ρ S = .ok (.t ds) S) : evI C call (.seq e) ρ S = .ok (.its ds) S := by
  rw [evI, h]
  rfl
theorem evI_zip {e e' : E} {ρ : Env} {ds es : List D} (h : evE C call e ρ S = .ok (.v (.tup ds)) S) (h' : evE C call e' ρ S = .ok (.v (.tup es)) S) : evI C call (.zip e e') ρ S = .ok (.its ((ds.zip es).map fun p => .tup [p.1, p.2])) S := by
  rw [evI, h]
  show (evE C call e' ρ S).bind _ = _
  rw [h']
  rfl
theorem mulR_spec {d i m g : Nat} (h : C.fns[i]? = some (F_times_row m g)) (hm : SMul C d m) (hg : C.glb[g]? = some (num 0)) : SMulR C (d + 1) i := by
  intro k l p q hp hq e
  refine Sp.by h rfl fun n S => ?_
  show evSs C (evCall C (n + d)) (t_times_row m g) [some (num p), some (row q), none] S = _
  have key := lc_map (C := C) (call := evCall C (n + d)) (S := S) (elt := .ife (.cmp .NotEq (.var 2) (.glb g)) (.call m (.cons (.var 0) (.cons (.var 2) .nil))) (.glb g)) (tg := .nm 2) (it := .seq (.var 1)) (k := 0) (ρ := [some (num p), some (row q), none]) (l := q) (f := num)
    (g := fun x => num (p * x)) (evI_row (by simp [row])) fun y hy => by
    refine ⟨_, asT_nm, ?_⟩
    show evE C (evCall C (n + d)) _ [some (num p), some (row q), some (num y)] S = _
    have c := hm k l p y hp (hq y hy) e
    by_cases z : y = 0
    · subst z
      simp [hg, Rat.mul_zero]
    · simp [hg, z, c.fill, c.run]
  simp [t_times_row, key]
  simp [row]
theorem byR_spec {d i m : Nat} (h : C.fns[i]? = some (F_law_by m)) (hm : SMul C d m) : SMulR C (d + 1) i := by
  intro k l p q hp hq e
  refine Sp.by h rfl fun n S => ?_
  show evSs C (evCall C (n + d)) (t_law_by m) [some (num p), some (row q), none] S = _
  have key := lc_map (C := C) (call := evCall C (n + d)) (S := S) (elt := .call m (.cons (.var 0) (.cons (.var 2) .nil))) (tg := .nm 2) (it := .seq (.var 1)) (k := 0) (ρ := [some (num p), some (row q), none]) (l := q) (f := num)
    (g := fun x => num (p * x)) (evI_row (by simp [row])) fun y hy => by
    refine ⟨_, asT_nm, ?_⟩
    show evE C (evCall C (n + d)) _ [some (num p), some (row q), some (num y)] S = _
    have c := hm k l p y hp (hq y hy) e
    simp [c.fill, c.run]
  simp [t_law_by, key]
  simp [row]
/-- pairs walked -/
theorem zip_pairs (p q : List Rat) : ((p.map num).zip (q.map num)).map (fun x => D.tup [x.1, x.2]) = (p.zip q).map fun x => .tup [num x.1, num x.2] := by
  rw [List.zip_map, List.map_map]
  rfl
theorem map_zip_with {α β γ : Type} (f : α → β → γ) : ∀ (p : List α) (q : List β), (p.zip q).map (fun x => f x.1 x.2) = List.zipWith f p q
  | [], _ => by simp
  | _ :: _, [] => by simp
  | a :: p, b :: q => by simp [map_zip_with f p q]
theorem addR_gen {d i m : Nat} {b : Ss} (h : C.fns[i]? = some ⟨2, 4, [], b⟩) (hb : b = t_sum_of_rows m) (hm : SAdd C d m) : SAddR C (d + 1) i := by
  subst hb
  intro k l p q hp hq e
  refine Sp.by h rfl fun n S => ?_
  show evSs C (evCall C (n + d)) (t_sum_of_rows m) [some (row p), some (row q), none, none] S = _
  have key := lc_map (C := C) (call := evCall C (n + d)) (S := S) (elt := .call m (.cons (.var 2) (.cons (.var 3) .nil))) (tg := .tp (.cons (.nm 2) (.cons (.nm 3) .nil))) (it := .zip (.var 0) (.var 1)) (k := 0) (ρ := [some (row p), some (row q), none, none]) (l := p.zip q) (f := fun x => .tup [num x.1, num x.2])
    (g := fun x => num (x.1 + x.2)) (by
      have := evI_zip (C := C) (call := evCall C (n + d)) (S := S) (e := .var 0) (e' := .var 1) (ρ := [some (row p), some (row q), none, none]) (ds := p.map num) (es := q.map num) (by simp [row]) (by simp [row])
      rw [zip_pairs] at this
      exact this) fun y hy => by
    refine ⟨[some (row p), some (row q), some (num y.1), some (num y.2)], ?_, ?_⟩
    · simp [tupOf, uncons, Ts.len, T.slots, Ts.slots, Q.wipe]
    · have h1 := List.of_mem_zip hy
      have c := hm k l y.1 y.2 (hp _ h1.1) (hq _ h1.2) e
      simp [c.fill, c.run]
  simp [t_sum_of_rows, key]
  simp [row]
  exact map_zip_with (fun x y => num (x + y)) p q
end
end Q
end
section
-- M8
set_option Elab.async false
set_option linter.all false
set_option maxRecDepth 100000
namespace Q
open PySem (Str Operator CmpOp BoolOp PyData Paired)
/-! ### sums -/
def sumL (l : List Rat) : Rat := l.foldl (· + ·) 0
def dotL (p q : List Rat) : Rat := sumL (List.zipWith (· * ·) p q)
theorem sumL_snoc (l : List Rat) (x : Rat) : sumL (l ++ [x]) = sumL l + x := by
  unfold sumL
  rw [List.foldl_append]
  rfl
theorem sz_sum {k : Nat} (l : List Rat) (h : ∀ x ∈ l, Sz k x) : Sz (l.length * (k + 1) + 1) (sumL l) := by
  suffices ∀ (m : List Rat) (b : Rat) (j : Nat), (∀ x ∈ m, Sz k x) → Sz j b → Sz (j + m.length * (k + 1)) (m.foldl (· + ·) b) by
    have := this l 0 1 h sz_zero
    rw [Nat.add_comm]
    exact this
  intro m
  induction m with
  | nil => intro b j _ hb; simpa using hb
  | cons a r ih =>
    intro b j hm hb
    have := ih (b + a) (j + k + 1) (fun x hx => hm x (List.mem_cons_of_mem _ hx)) (sz_add hb (hm a List.mem_cons_self))
    rw [List.foldl_cons, List.length_cons, Nat.add_mul, Nat.one_mul]
    exact this.mono (by omega)
section
variable {C : Q.Ctx} {call : Nat → List D → Store → Res R} {S : Store}
theorem forL_typed {α : Type} {f : α → D} {turn : D → Env → Store → Res Fl} {l : List α} {ρ : Env} (R : List α → Env → Store → Prop) (h : ∀ done a rest ρ S, l = done ++ a :: rest → R done ρ S → ∃ ρ' S', (turn (f a) ρ S = .ok (.nx ρ') S' ∨ turn (f a) ρ S = .ok (.ct ρ') S') ∧ R (done ++ [a]) ρ' S') (r : R [] ρ S) :
    ∃ ρ' S', forL turn (l.map f) ρ S = .ok (.nx ρ') S' ∧ R l ρ' S' := by
  suffices ∀ (m done : List α) (ρ : Env) (S : Store), l = done ++ m → R done ρ S → ∃ ρ' S', forL turn (m.map f) ρ S = .ok (.nx ρ') S' ∧ R l ρ' S' from this l [] ρ S rfl r
  intro m
  induction m with
  | nil => intro done ρ S e r; exact ⟨ρ, S, by rw [List.map_nil, forL], by rw [List.append_nil] at e; rw [e]; exact r⟩
  | cons a rest ih =>
    intro done ρ S e r
    obtain ⟨ρ', S', e1, r'⟩ := h done a rest ρ S e r
    obtain ⟨ρ2, S2, e2, r2⟩ := ih (done ++ [a]) ρ' S' (by rw [List.append_assoc]; exact e) r'
    refine ⟨ρ2, S2, ?_, r2⟩
    rw [List.map_cons, forL]
    rcases e1 with e1 | e1 <;> (rw [e1]; exact e2)
theorem s_for {t : T} {it : It} {b : Ss} {ρ : Env} {ds : List D} (h : evI C call it ρ S = .ok (.its ds) S) : evS C call (.for t it b) ρ S = forL (fun d ρ S => (calm (asT C call t d ρ S)).bind fun ρ S => evSs C call b ρ S) ds ρ S := by
  rw [evS, h]
  rfl
def SSum (C : Q.Ctx) (d i : Nat) : Prop := ∀ k p, (∀ x ∈ p, Sz k x) → (p.length + 1) * (k + 1) + 1 ≤ 4000 → Sp C d i [row p] (.v (num (sumL p)))
theorem sum_spec {d i a g : Nat} (h : C.fns[i]? = some (F_sum_of a g)) (ha : SAdd C d a) (hg : C.glb[g]? = some (num 0)) : SSum C (d + 1) i := by
  intro k p hp hk
  refine Sp.by h rfl fun n S => ?_
  show evSs C (evCall C (n + d)) (t_sum_of a g) [some (row p), none, none] S = _
  obtain ⟨ρ', S', e, x, e1, e2⟩ := forL_typed (S := S) (f := num) (turn := fun d' ρ S => (calm (asT C (evCall C (n + d)) (.nm 2) d' ρ S)).bind fun ρ S => evSs C (evCall C (n + d)) (.cons (.asg (.nm 1) (.call a (.cons (.var 1) (.cons (.var 2) .nil)))) .nil) ρ S) (l := p) (ρ := [some (row p), some (num 0), none])
    (fun done ρ S' => ∃ x, ρ = [some (row p), some (num (sumL done)), x] ∧ S' = S) (fun done b rest ρ S' el ⟨x, e1, e2⟩ => by
      subst e1 e2
      have hb : ∀ y ∈ done, Sz k y := fun y hy => hp y (by rw [el]; exact List.mem_append_left _ hy)
      have hl : done.length + 1 ≤ p.length := by rw [el, List.length_append, List.length_cons]; omega
      have hm : (done.length + 1) * (k + 1) ≤ p.length * (k + 1) := Nat.mul_le_mul_right _ hl
      rw [Nat.add_mul, Nat.one_mul] at hm hk
      have c := ha _ k (sumL done) b (sz_sum done hb) (hp b (by rw [el]; simp)) (by omega)
      refine ⟨[some (row p), some (num (sumL (done ++ [b]))), some (num b)], _, .inl ?_, _, rfl, rfl⟩
      simp [calm, c.fill, c.run, sumL_snoc]) ⟨none, rfl, rfl⟩
  rw [e1, e2] at e
  have eI : evI C (evCall C (n + d)) (.seq (.var 0)) [some (row p), some (num 0), none] S = .ok (.its (p.map num)) S := evI_row (by simp [row])
  have es := (s_for eI).trans e
  simp [t_sum_of, hg, calm, es]
/-- products of rows -/
def SDot (C : Q.Ctx) (d i : Nat) : Prop := ∀ k l p q, (∀ x ∈ p, Sz k x) → (∀ x ∈ q, Sz l x) → (p.length + 1) * (k + l + 1) + 1 ≤ 4000 → Sp C d i [row p, row q] (.v (num (dotL p q)))
theorem asT_two {i j : Nat} {x y : D} {ρ : Env} : asT C call (.tp (.cons (.nm i) (.cons (.nm j) .nil))) (.tup [x, y]) ρ S = .ok ((ρ.set i (some x)).set j (some y)) S := by
  simp [tupOf, uncons, Ts.len]
theorem zip_snoc {p q : List Rat} {done rest : List (Rat × Rat)} {b : Rat × Rat} (e : p.zip q = done ++ b :: rest) : (∀ x ∈ done ++ [b], x.1 ∈ p ∧ x.2 ∈ q) ∧ done.length + 1 ≤ p.length := by
  refine ⟨fun x hx => ?_, ?_⟩
  · have : x ∈ p.zip q := by
      rw [e]
      rcases List.mem_append.mp hx with z | z
      · exact List.mem_append_left _ z
      · rw [List.mem_singleton] at z; rw [z]; simp
    exact List.of_mem_zip this
  · have := congrArg List.length e
    rw [List.length_zip, List.length_append, List.length_cons] at this
    omega
theorem dot_zip (p q : List Rat) : dotL p q = sumL ((p.zip q).map fun x => x.1 * x.2) := by
  unfold dotL
  rw [map_zip_with]
theorem evI_zipR {e e' : E} {ρ : Env} {p q : List Rat} (h : evE C call e ρ S = .ok (.v (row p)) S) (h' : evE C call e' ρ S = .ok (.v (row q)) S) : evI C call (.zip e e') ρ S = .ok (.its ((p.zip q).map fun x => .tup [num x.1, num x.2])) S := by
  have := evI_zip h h'
  rw [zip_pairs] at this
  exact this
/-- the loop of both products -/
theorem dot_loop {d a m k l : Nat} {p q : List Rat} (ha : SAdd C d a) (hm : SMul C d m) (hp : ∀ x ∈ p, Sz k x) (hq : ∀ x ∈ q, Sz l x) (hk : (p.length + 1) * (k + l + 1) + 1 ≤ 4000) {body : Ss} {n : Nat} {S : Store}
    (hb : ∀ (f x y : Rat), Sp C d m [num x, num y] (.v (num (x * y))) → Sp C d a [num f, num (x * y)] (.v (num (f + x * y))) → evSs C (evCall C (n + d)) body [some (row p), some (row q), some (num f), some (num x), some (num y)] S = .ok (.nx [some (row p), some (row q), some (num (f + x * y)), some (num x), some (num y)]) S) :
    ∃ x y, forL (fun d' ρ S => (calm (asT C (evCall C (n + d)) (.tp (.cons (.nm 3) (.cons (.nm 4) .nil))) d' ρ S)).bind fun ρ S => evSs C (evCall C (n + d)) body ρ S) ((p.zip q).map fun x => .tup [num x.1, num x.2]) [some (row p), some (row q), some (num 0), none, none] S = .ok (.nx [some (row p), some (row q), some (num (dotL p q)), x, y]) S := by
  obtain ⟨ρ', S', e, x, y, e1, e2⟩ := forL_typed (S := S) (f := fun x : Rat × Rat => D.tup [num x.1, num x.2]) (turn := fun d' ρ S => (calm (asT C (evCall C (n + d)) (.tp (.cons (.nm 3) (.cons (.nm 4) .nil))) d' ρ S)).bind fun ρ S => evSs C (evCall C (n + d)) body ρ S) (l := p.zip q) (ρ := [some (row p), some (row q), some (num 0), none, none])
    (fun done ρ S' => ∃ x y, ρ = [some (row p), some (row q), some (num (sumL (done.map fun x => x.1 * x.2))), x, y] ∧ S' = S) (fun done b rest ρ S' el ⟨x, y, e1, e2⟩ => by
      subst e1
      rw [e2]
      obtain ⟨h1, hl⟩ := zip_snoc el
      have hs : ∀ z ∈ done.map (fun x => x.1 * x.2), Sz (k + l) z := fun z hz => by
        obtain ⟨w, hw, rfl⟩ := List.mem_map.mp hz
        have := h1 w (List.mem_append_left _ hw)
        exact sz_mul (hp _ this.1) (hq _ this.2)
      have hb1 := h1 b (by simp)
      have hm' : (done.length + 1) * (k + l + 1) ≤ p.length * (k + l + 1) := Nat.mul_le_mul_right _ hl
      rw [Nat.add_mul, Nat.one_mul] at hm' hk
      have sz := sz_sum _ hs
      rw [List.length_map] at sz
      have cm := hm k l b.1 b.2 (hp _ hb1.1) (hq _ hb1.2) (by omega)
      have ca := ha _ (k + l) _ (b.1 * b.2) sz (sz_mul (hp _ hb1.1) (hq _ hb1.2)) (by omega)
      refine ⟨[some (row p), some (row q), some (num (sumL (done.map fun x => x.1 * x.2) + b.1 * b.2)), some (num b.1), some (num b.2)], S, .inl ?_, some (num b.1), some (num b.2), ?_, rfl⟩
      · show (calm (asT C (evCall C (n + d)) _ (.tup [num b.1, num b.2]) _ S)).bind _ = _
        rw [asT_two]
        exact hb _ _ _ cm ca
      · rw [List.map_append, List.map_cons, List.map_nil, sumL_snoc]) ⟨none, none, rfl, rfl⟩
  rw [e1, e2] at e
  exact ⟨x, y, by rw [dot_zip]; exact e⟩
theorem dot_spec {d i a m g : Nat} (h : C.fns[i]? = some (F_product_of a m g)) (ha : SAdd C d a) (hm : SMul C d m) (hg : C.glb[g]? = some (num 0)) : SDot C (d + 1) i := by
  intro k l p q hp hq hk
  refine Sp.by h rfl fun n S => ?_
  show evSs C (evCall C (n + d)) (t_product_of a m g) [some (row p), some (row q), none, none, none] S = _
  have eI := evI_zipR (C := C) (call := evCall C (n + d)) (S := S) (e := .var 0) (e' := .var 1) (ρ := [some (row p), some (row q), some (num 0), none, none]) (p := p) (q := q) (by simp) (by simp)
  obtain ⟨x, y, e⟩ := dot_loop ha hm hp hq hk (n := n) (S := S) (body := (.cons (.ife (.bop .And (.cons (.cmp .NotEq (.var 3) (.glb g)) (.cons (.cmp .NotEq (.var 4) (.glb g)) .nil))) (.cons (.asg (.nm 2) (.call a (.cons (.var 2) (.cons (.call m (.cons (.var 3) (.cons (.var 4) .nil))) .nil)))) .nil) .nil) .nil)) fun f x y cm ca => by
    by_cases hx : x = 0
    · subst hx
      simp [hg, Rat.zero_mul, Rat.add_zero]
    · by_cases hy : y = 0
      · subst hy
        simp [hg, hx, Rat.mul_zero, Rat.add_zero]
      · simp [hg, hx, hy, calm, cm.fill, cm.run, ca.fill, ca.run]
  have es := (s_for eI).trans e
  simp [t_product_of, hg, calm, es]
theorem notIn_zero (S : Store) (a b : Int) : evCmp .NotIn S (.v (.int 0)) (.v (.tup [.int a, .int b])) = some (decide (a ≠ 0 ∧ b ≠ 0)) := by
  show some (!L2.inV (.int 0) [.int a, .int b]) = _
  unfold L2.inV
  by_cases h1 : a = 0 <;> by_cases h2 : b = 0 <;> simp [L2.eqV, h1, h2]
theorem ldot_spec {d i a m : Nat} (h : C.fns[i]? = some (F_law_dot a m)) (ha : SAdd C d a) (hm : SMul C d m) : SDot C (d + 1) i := by
  intro k l p q hp hq hk
  refine Sp.by h rfl fun n S => ?_
  show evSs C (evCall C (n + d)) (t_law_dot a m) [some (row p), some (row q), none, none, none] S = _
  have eI := evI_zipR (C := C) (call := evCall C (n + d)) (S := S) (e := .var 0) (e' := .var 1) (ρ := [some (row p), some (row q), some (num 0), none, none]) (p := p) (q := q) (by simp) (by simp)
  have e0 : D.tup [.int 0, .int 1] = num 0 := rfl
  obtain ⟨x, y, e⟩ := dot_loop ha hm hp hq hk (n := n) (S := S) (body := (.cons (.ife (.cmp .NotIn (.int 0) (.tup (.cons (.idx (.var 3) (.int 0)) (.cons (.idx (.var 4) (.int 0)) .nil)))) (.cons (.asg (.nm 2) (.call a (.cons (.var 2) (.cons (.call m (.cons (.var 3) (.cons (.var 4) .nil))) .nil)))) .nil) .nil) .nil)) fun f x y cm ca => by
    by_cases hx : x = 0
    · subst hx
      simp [notIn_zero, Rat.zero_mul, Rat.add_zero]
    · by_cases hy : y = 0
      · subst hy
        simp [notIn_zero, hx, Rat.mul_zero, Rat.add_zero]
      · have h1 : x.num ≠ 0 := num_ne hx
        have h2 : y.num ≠ 0 := num_ne hy
        simp [notIn_zero, h1, h2, calm, cm.fill, cm.run, ca.fill, ca.run]
  have es := (s_for eI).trans e
  simp [t_law_dot, calm, e0, es]
end
end Q
end
section
-- M9
set_option Elab.async false
set_option linter.all false
set_option maxRecDepth 100000
namespace Q
open PySem (Str Operator CmpOp BoolOp PyData Paired)
/-! ### what a table leads a row to -/
def mix (f : List Rat) (x : Rat) (r : List Rat) : List Rat := List.zipWith (· + ·) f (r.map (x * ·))
def ledL (w : Nat) (t : List (Rat × List Rat)) : List Rat := t.foldl (fun f x => mix f x.1 x.2) (List.replicate w 0)
theorem ledL_snoc (w : Nat) (t : List (Rat × List Rat)) (x : Rat × List Rat) : ledL w (t ++ [x]) = mix (ledL w t) x.1 x.2 := by
  unfold ledL
  rw [List.foldl_append]
  rfl
theorem mix_len {w : Nat} {f r : List Rat} {x : Rat} (h : f.length = w) (g : r.length = w) : (mix f x r).length = w := by
  unfold mix
  rw [List.length_zipWith, List.length_map]
  omega
theorem mem_zipWith {α β γ : Type} {f : α → β → γ} : ∀ {p : List α} {q : List β} {z : γ}, z ∈ List.zipWith f p q → ∃ a ∈ p, ∃ b ∈ q, z = f a b
  | [], _, z, h => by simp at h
  | _ :: _, [], z, h => by simp at h
  | a :: p, b :: q, z, h => by
    rw [List.zipWith_cons_cons, List.mem_cons] at h
    rcases h with h | h
    · exact ⟨a, List.mem_cons_self, b, List.mem_cons_self, h⟩
    · obtain ⟨a', h1, b', h2, h3⟩ := mem_zipWith h
      exact ⟨a', List.mem_cons_of_mem _ h1, b', List.mem_cons_of_mem _ h2, h3⟩
theorem mix_sz {j k l : Nat} {f r : List Rat} {x : Rat} (hf : ∀ y ∈ f, Sz j y) (hx : Sz k x) (hr : ∀ y ∈ r, Sz l y) : ∀ y ∈ mix f x r, Sz (j + (k + l) + 1) y := fun y hy => by
  obtain ⟨a, ha, b, hb, e⟩ := mem_zipWith hy
  obtain ⟨c, hc, rfl⟩ := List.mem_map.mp hb
  rw [e]
  exact sz_add (hf a ha) (sz_mul hx (hr c hc))
theorem led_len {w : Nat} : ∀ (t : List (Rat × List Rat)), (∀ x ∈ t, x.2.length = w) → (ledL w t).length = w := fun t => by
  suffices ∀ (t : List (Rat × List Rat)) (f : List Rat), f.length = w → (∀ x ∈ t, x.2.length = w) → (t.foldl (fun f x => mix f x.1 x.2) f).length = w from fun h => this t _ (by simp) h
  intro t
  induction t with
  | nil => intro f hf _; exact hf
  | cons x r ih => intro f hf h; exact ih _ (mix_len hf (h x List.mem_cons_self)) fun y hy => h y (List.mem_cons_of_mem _ hy)
theorem led_sz {k l w : Nat} (t : List (Rat × List Rat)) (h : ∀ x ∈ t, Sz k x.1 ∧ ∀ y ∈ x.2, Sz l y) : ∀ y ∈ ledL w t, Sz (t.length * (k + l + 1) + 1) y := by
  suffices ∀ (t : List (Rat × List Rat)) (f : List Rat) (j : Nat), (∀ y ∈ f, Sz j y) → (∀ x ∈ t, Sz k x.1 ∧ ∀ y ∈ x.2, Sz l y) → ∀ y ∈ t.foldl (fun f x => mix f x.1 x.2) f, Sz (j + t.length * (k + l + 1)) y by
    have := this t (List.replicate w 0) 1 (fun y hy => by rw [(List.mem_replicate.mp hy).2]; exact sz_zero) h
    intro y hy
    rw [Nat.add_comm]
    exact this y hy
  intro t
  induction t with
  | nil => intro f j hf _ y hy; simpa using hf y hy
  | cons x r ih =>
    intro f j hf h y hy
    have h1 := h x List.mem_cons_self
    have := ih (mix f x.1 x.2) (j + (k + l) + 1) (mix_sz hf h1.1 h1.2) (fun z hz => h z (List.mem_cons_of_mem _ hz)) y hy
    rw [List.length_cons, Nat.add_mul, Nat.one_mul]
    exact this.mono (by omega)
/-- a table of w columns, its numbers below l -/
structure Tb (w l : Nat) (t : List (List Rat)) : Prop where
  len : ∀ r ∈ t, r.length = w
  sz : ∀ r ∈ t, ∀ x ∈ r, Sz l x
section
variable {C : Q.Ctx} {call : Nat → List D → Store → Res R} {S : Store}
theorem zip_pairsR (p : List Rat) (t : List (List Rat)) : ((p.map num).zip (t.map row)).map (fun x => D.tup [x.1, x.2]) = (p.zip t).map fun x => .tup [num x.1, row x.2] := by
  rw [List.zip_map, List.map_map]
  rfl
theorem evI_zipT {e e' : E} {ρ : Env} {p : List Rat} {t : List (List Rat)} (h : evE C call e ρ S = .ok (.v (row p)) S) (h' : evE C call e' ρ S = .ok (.v (tabD t)) S) : evI C call (.zip e e') ρ S = .ok (.its ((p.zip t).map fun x => .tup [num x.1, row x.2])) S := by
  have := evI_zip h h'
  rw [zip_pairsR] at this
  exact this
theorem zip_snocR {p : List Rat} {q : List (List Rat)} {done rest : List (Rat × List Rat)} {b : Rat × List Rat} (e : p.zip q = done ++ b :: rest) : (∀ x ∈ done ++ [b], x.1 ∈ p ∧ x.2 ∈ q) ∧ done.length + 1 ≤ p.length := by
  refine ⟨fun x hx => ?_, ?_⟩
  · have : x ∈ p.zip q := by
      rw [e]
      rcases List.mem_append.mp hx with z | z
      · exact List.mem_append_left _ z
      · rw [List.mem_singleton] at z; rw [z]; simp
    exact List.of_mem_zip this
  · have := congrArg List.length e
    rw [List.length_zip, List.length_append, List.length_cons] at this
    omega
def ledT (w : Nat) (p : List Rat) (t : List (List Rat)) : List Rat := ledL w (p.zip t)
def SLed (C : Q.Ctx) (d i : Nat) : Prop := ∀ k l w p t, (∀ x ∈ p, Sz k x) → Tb w l t → w ≤ 1000 → (p.length + 1) * (k + l + 1) + 1 ≤ 4000 → Sp C d i [.int w, tabD t, row p] (.v (row (ledT w p t)))
theorem led_loop {d a m k l w : Nat} {p : List Rat} {t : List (List Rat)} (ha : SAddR C d a) (hm : SMulR C d m) (hp : ∀ x ∈ p, Sz k x) (ht : Tb w l t) (hk : (p.length + 1) * (k + l + 1) + 1 ≤ 4000) {body : Ss} {n : Nat} {S : Store}
    (hb : ∀ (f : List Rat) (x : Rat) (r : List Rat), f.length = w → r.length = w → Sp C d m [num x, row r] (.v (row (r.map (x * ·)))) → Sp C d a [row f, row (r.map (x * ·))] (.v (row (mix f x r))) →
      evSs C (evCall C (n + d)) body [some (.int w), some (tabD t), some (row p), some (row f), some (num x), some (row r)] S = .ok (.nx [some (.int w), some (tabD t), some (row p), some (row (mix f x r)), some (num x), some (row r)]) S) :
    ∃ x y, forL (fun d' ρ S => (calm (asT C (evCall C (n + d)) (.tp (.cons (.nm 4) (.cons (.nm 5) .nil))) d' ρ S)).bind fun ρ S => evSs C (evCall C (n + d)) body ρ S) ((p.zip t).map fun x => .tup [num x.1, row x.2]) [some (.int w), some (tabD t), some (row p), some (row (List.replicate w 0)), none, none] S = .ok (.nx [some (.int w), some (tabD t), some (row p), some (row (ledT w p t)), x, y]) S := by
  obtain ⟨ρ', S', e, x, y, e1, e2⟩ := forL_typed (S := S) (f := fun x : Rat × List Rat => D.tup [num x.1, row x.2]) (turn := fun d' ρ S => (calm (asT C (evCall C (n + d)) (.tp (.cons (.nm 4) (.cons (.nm 5) .nil))) d' ρ S)).bind fun ρ S => evSs C (evCall C (n + d)) body ρ S) (l := p.zip t) (ρ := [some (.int w), some (tabD t), some (row p), some (row (List.replicate w 0)), none, none])
    (fun done ρ S' => ∃ x y, ρ = [some (.int w), some (tabD t), some (row p), some (row (ledL w done)), x, y] ∧ S' = S) (fun done b rest ρ S' el ⟨x, y, e1, e2⟩ => by
      subst e1
      rw [e2]
      obtain ⟨h1, hl⟩ := zip_snocR el
      have hb1 := h1 b (by simp)
      have hd : ∀ z ∈ done, Sz k z.1 ∧ ∀ y ∈ z.2, Sz l y := fun z hz => by
        have := h1 z (List.mem_append_left _ hz)
        exact ⟨hp _ this.1, ht.sz _ this.2⟩
      have hn : ∀ z ∈ done, z.2.length = w := fun z hz => ht.len _ (h1 z (List.mem_append_left _ hz)).2
      have hm' : (done.length + 1) * (k + l + 1) ≤ p.length * (k + l + 1) := Nat.mul_le_mul_right _ hl
      rw [Nat.add_mul, Nat.one_mul] at hm' hk
      have sz := led_sz (w := w) done hd
      have cm := hm k l b.1 b.2 (hp _ hb1.1) (ht.sz _ hb1.2) (by omega)
      have ca := ha _ (k + l) _ (b.2.map (b.1 * ·)) sz (fun z hz => by
        obtain ⟨c, hc, rfl⟩ := List.mem_map.mp hz
        exact sz_mul (hp _ hb1.1) (ht.sz _ hb1.2 c hc)) (by omega)
      refine ⟨[some (.int w), some (tabD t), some (row p), some (row (mix (ledL w done) b.1 b.2)), some (num b.1), some (row b.2)], S, .inl ?_, some (num b.1), some (row b.2), ?_, rfl⟩
      · show (calm (asT C (evCall C (n + d)) _ (.tup [num b.1, row b.2]) _ S)).bind _ = _
        rw [asT_two]
        exact hb _ _ _ (led_len done hn) (ht.len _ hb1.2) cm ca
      · rw [ledL_snoc]) ⟨none, none, rfl, rfl⟩
  rw [e1, e2] at e
  exact ⟨x, y, e⟩
theorem rep_num (w : Nat) (x : Rat) : (List.replicate w [num x]).flatten = (List.replicate w x).map num := by
  induction w with
  | zero => rfl
  | succ n ih => rw [List.replicate_succ, List.flatten_cons, ih, List.replicate_succ]; rfl
theorem mul_rep (S : Store) (w : Nat) (x : Rat) (h : w ≤ 1000) : evBin .Mult S (.v (.tup [num x])) (.v (.int w)) = .ok (.v (row (List.replicate w x))) S := by
  show (if (Nat.ble [num x].length 1000 && decide ((w : Int) ≤ 1000) && decide (0 ≤ (w : Int))) = true then _ else _) = _
  rw [if_pos (by simp; omega), Int.toNat_natCast, rep_num]
  rfl
def SRest (C : Q.Ctx) (d i : Nat) : Prop := ∀ w : Nat, w ≤ 1000 → Sp C d i [.int w] (.v (row (List.replicate w 0)))
theorem rest_spec {i g : Nat} (h : C.fns[i]? = some (F_rest_row g)) (hg : C.glb[g]? = some (num 0)) : SRest C 1 i := by
  intro w hw
  refine Sp.by (d := 0) h rfl fun n S => ?_
  show evSs C (evCall C n) (t_rest_row g) [some (.int w)] S = _
  simp [t_rest_row, hg, mul_rep S w 0 hw]
theorem mix_zero {w : Nat} : ∀ {f r : List Rat}, f.length = w → r.length = w → mix f 0 r = f := fun {f r} h g => by
  unfold mix
  have : ∀ (f r : List Rat), f.length = r.length → List.zipWith (· + ·) f (r.map (0 * ·)) = f := by
    intro f
    induction f with
    | nil => intro r _; simp
    | cons a f ih =>
      intro r e
      cases r with
      | nil => cases e
      | cons b r =>
        rw [List.map_cons, List.zipWith_cons_cons, ih r (by simpa using e), Rat.zero_mul, Rat.add_zero]
  exact this f r (by omega)
theorem led_spec {d i r a m g : Nat} (h : C.fns[i]? = some (F_led_told r a m g)) (hr : SRest C d r) (ha : SAddR C d a) (hm : SMulR C d m) (hg : C.glb[g]? = some (num 0)) : SLed C (d + 1) i := by
  intro k l w p t hp ht hw hk
  refine Sp.by h rfl fun n S => ?_
  show evSs C (evCall C (n + d)) (t_led_told r a m g) [some (.int w), some (tabD t), some (row p), none, none, none] S = _
  have eI := evI_zipT (C := C) (call := evCall C (n + d)) (S := S) (e := .var 2) (e' := .var 1) (ρ := [some (.int w), some (tabD t), some (row p), some (row (List.replicate w 0)), none, none]) (p := p) (t := t) (by simp) (by simp)
  obtain ⟨x, y, e⟩ := led_loop ha hm hp ht hk (n := n) (S := S) (body := (.cons (.ife (.cmp .NotEq (.var 4) (.glb g)) (.cons (.asg (.nm 3) (.call a (.cons (.var 3) (.cons (.call m (.cons (.var 4) (.cons (.var 5) .nil))) .nil)))) .nil) .nil) .nil)) fun f x r hf hr cm ca => by
    by_cases hx : x = 0
    · subst hx
      simp [hg, mix_zero hf hr]
    · simp [hg, hx, calm, cm.fill, cm.run, ca.fill, ca.run]
  have es := (s_for eI).trans e
  have cr := hr w hw
  simp [t_led_told, hg, calm, es, cr.fill, cr.run]
theorem forth_spec {d i a m : Nat} (h : C.fns[i]? = some (F_law_forth a m)) (ha : SAddR C d a) (hm : SMulR C d m) : SLed C (d + 1) i := by
  intro k l w p t hp ht hw hk
  refine Sp.by h rfl fun n S => ?_
  show evSs C (evCall C (n + d)) (t_law_forth a m) [some (.int w), some (tabD t), some (row p), none, none, none] S = _
  have eI := evI_zipT (C := C) (call := evCall C (n + d)) (S := S) (e := .var 2) (e' := .var 1) (ρ := [some (.int w), some (tabD t), some (row p), some (row (List.replicate w 0)), none, none]) (p := p) (t := t) (by simp) (by simp)
  have e0 : D.tup [.int 0, .int 1] = num 0 := rfl
  obtain ⟨x, y, e⟩ := led_loop ha hm hp ht hk (n := n) (S := S) (body := (.cons (.asg (.nm 3) (.call a (.cons (.var 3) (.cons (.call m (.cons (.var 4) (.cons (.var 5) .nil))) .nil)))) .nil)) fun f x r hf hr cm ca => by
    simp [calm, cm.fill, cm.run, ca.fill, ca.run]
  have es := (s_for eI).trans e
  simp [t_law_forth, calm, es, e0, mul_rep S w 0 hw]
end
end Q
end
section
-- M10
set_option Elab.async false
set_option linter.all false
set_option maxRecDepth 100000
namespace Q
open PySem (Str Operator CmpOp BoolOp PyData Paired)
/-! ### judges -/
/-- data of depth n, its ints below 2^k -/
inductive Pu (k : Nat) : Nat → D → Prop where
  | non {n : Nat} : Pu k n .non
  | bl {n : Nat} (b : Bool) : Pu k n (.bl b)
  | int {n : Nat} {i : Int} (h : Lt k i) : Pu k n (.int i)
  | str {n : Nat} {x : Str} (h : (PyData.str x).canLay0 = true) : Pu k n (.str x)
  | tup {n : Nat} {ds : List D} (h : ∀ d ∈ ds, Pu k n d) : Pu k (n + 1) (.tup ds)
theorem Pu.py {k : Nat} : ∀ {n : Nat} {d : D}, Pu k n d → ∃ p, Py d p n := fun {n d} h => by
  induction h with
  | non => exact ⟨.none, fun S f h => by cases f with | zero => omega | succ f => rfl, by rw [PyData.canLay0], by rw [PyData.depth]; exact Nat.zero_le _⟩
  | bl b => exact ⟨.bool b, fun S f h => by cases f with | zero => omega | succ f => rfl, by rw [PyData.canLay0], by rw [PyData.depth]; exact Nat.zero_le _⟩
  | @int n i h => exact ⟨.int i, (py_int i).mono (Nat.zero_le _)⟩
  | @str n x h => exact ⟨.str x, fun S f h => by cases f with | zero => omega | succ f => rfl, h, by rw [PyData.depth]; exact Nat.zero_le _⟩
  | @tup n ds h ih =>
    have : ∃ ps, Paired (fun d p => Py d p n) ds ps := by
      clear h
      induction ds with
      | nil => exact ⟨[], .nil⟩
      | cons d r ih2 =>
        obtain ⟨p, hp⟩ := ih d List.mem_cons_self
        obtain ⟨ps, hps⟩ := ih2 fun x hx => ih x (List.mem_cons_of_mem _ hx)
        exact ⟨p :: ps, .cons hp hps⟩
    obtain ⟨ps, hps⟩ := this
    exact ⟨_, py_tup hps⟩
/-- such data, or a list or dict of the store -/
inductive Va (k n : Nat) : D → Prop where
  | pu {d : D} (h : Pu k 60 d) : Va k n d
  | ref {m : Nat} (h : m < n) : Va k n (.ref m)
def isI : D → Bool
  | .int _ => true
  | _ => false
def isB : D → Bool
  | .bl _ => true
  | _ => false
def isTup : D → Bool
  | .tup _ => true
  | _ => false
def isNum : D → Bool
  | .tup [.int a, .int b] => decide (0 < b) && decide (Int.gcd a b = 1)
  | _ => false
section
variable {S : Store} {k : Nat} {d : D}
theorem ty_tup (h : Va k S.length d) : tyIs S (.v d) .tuple = some (isTup d) := by
  cases h with
  | @ref m h =>
    unfold tyIs
    dsimp only
    rw [List.getElem?_eq_getElem h]
    generalize S[m] = c
    cases c <;> rfl
  | pu h => cases h <;> rfl
theorem ty_int (h : Va k S.length d) : tyIs S (.v d) .int = some (isI d || isB d) := by
  cases h with
  | @ref m h =>
    unfold tyIs
    dsimp only
    rw [List.getElem?_eq_getElem h]
    generalize S[m] = c
    cases c <;> rfl
  | pu h => cases h <;> rfl
theorem ty_bool (h : Va k S.length d) : tyIs S (.v d) .bool = some (isB d) := by
  cases h with
  | @ref m h =>
    unfold tyIs
    dsimp only
    rw [List.getElem?_eq_getElem h]
    generalize S[m] = c
    cases c <;> rfl
  | pu h => cases h <;> rfl
theorem I_not_B (d : D) : (if (isI d || isB d) = true then !isB d else false) = isI d := by cases d <;> rfl
end
/-- a judge: f -/
structure SJ (C : Q.Ctx) (d i : Nat) (k : Nat) (f : D → Bool) : Prop where
  fill : ∀ x, Q.fill C i [x] = some [x]
  run : ∀ n S x, Va k S.length x → evCall C (n + d) i [x] S = .ok (.v (.bl (f x))) S
section
variable {C : Q.Ctx} {call : Nat → List D → Store → Res R} {S : Store}
theorem isint_spec {i k : Nat} (h : C.fns[i]? = some F_is_integer) : SJ C 1 i k isI := by
  refine ⟨fun x => fill_of h rfl, fun n S x hx => ev_pure h rfl ?_⟩
  show evSs C (evCall C n) t_is_integer [some x] S = _
  simp [t_is_integer, ty_int hx, ty_bool hx]
  cases x <;> simp [isI, isB]
theorem va_of_tup {k n : Nat} {ds : List D} (h : Va k n (.tup ds)) : ∀ d ∈ ds, Pu k 60 d := by
  intro d hd
  cases h with
  | pu h =>
    cases h with
    | tup h =>
      have mono : ∀ {n : Nat} {d : D}, Pu k n d → Pu k (n + 1) d := fun {n d} h => by
        induction h with
        | non => exact .non
        | bl b => exact .bl b
        | int h => exact .int h
        | str h => exact .str h
        | tup h ih => exact .tup ih
      exact mono (h d hd)
theorem allBl_map {α : Type} (f : α → Bool) : ∀ l : List α, allBl (l.map fun x => D.bl (f x)) = some (l.map f)
  | [] => rfl
  | a :: r => by
    rw [List.map_cons, allBl, allBl_map f r]
    rfl
theorem all_t {α : Type} (f : α → Bool) (l : List α) : evBi1 .all S (.t (l.map fun x => D.bl (f x))) = .ok (.v (.bl (l.all f))) S := by
  unfold evBi1
  dsimp only [seqOf]
  rw [allBl_map]
  dsimp only
  rw [List.all_map]
  rfl
/-- values of two -/
theorem two_or (ds : List D) : (∃ u v, ds = [u, v]) ∨ ds.length ≠ 2 := by
  match ds with
  | [] => exact .inr (by decide)
  | [_] => exact .inr (by simp)
  | [u, v] => exact .inl ⟨u, v, rfl⟩
  | _ :: _ :: _ :: _ => exact .inr (by simp)
theorem isNum_len {ds : List D} (h : ds.length ≠ 2) : isNum (.tup ds) = false := by
  match ds, h with
  | [], _ => rfl
  | [u], _ => cases u <;> rfl
  | [u, v], h => exact absurd rfl h
  | u :: v :: w :: r, _ => cases u <;> cases v <;> rfl
theorem isNum_two {u v : D} (h : (isI u && isI v) = false) : isNum (.tup [u, v]) = false := by
  cases u <;> cases v <;> first | rfl | cases h
theorem I_of {u v : D} (h : (isI u && isI v) = true) : ∃ a b, u = .int a ∧ v = .int b := by
  cases u <;> cases v <;> first | cases h; done | exact ⟨_, _, rfl, rfl⟩
theorem isnum_spec (B : Big C) {i a g k d : Nat} (h : C.fns[i]? = some (F_is_number a g)) (ha : SJ C (d + 1) a k isI) (hg : C.fns[g]? = some fGcd) (hk : k ≤ 9000) : SJ C (d + 2) i k isNum := by
  refine ⟨fun x => fill_of h rfl, fun n S x hx => ?_⟩
  refine ev_pure (n := n + (d + 1)) h rfl ?_
  show evSs C (evCall C (n + (d + 1))) (t_is_number a g) [some x, none] S = _
  cases x with
  | tup ds =>
    have hds := va_of_tup hx
    rcases two_or ds with ⟨u, v, rfl⟩ | hl
    · have key := lc_map (C := C) (call := evCall C (n + (d + 1))) (S := S) (elt := .call a (.cons (.var 1) .nil)) (tg := .nm 1) (it := .seq (.var 0)) (k := 0) (ρ := [some (.tup [u, v]), none]) (l := [u, v]) (f := fun x => x)
        (g := fun x => .bl (isI x)) (by rw [List.map_id']; exact evI_row (by simp)) fun y hy => by
        refine ⟨_, asT_nm, ?_⟩
        show evE C (evCall C (n + (d + 1))) _ [some (.tup [u, v]), some y] S = _
        simp [ha.fill, ha.run n S y (.pu (hds y hy))]
      have al := all_t (S := S) isI [u, v]
      simp only [List.map_cons, List.map_nil] at al key
      cases hI : isI u && isI v with
      | false =>
        have e2 : [u, v].all isI = false := by simpa using hI
        rw [e2] at al
        simp [t_is_number, ty_tup hx, isTup, key, al, isNum_two hI]
      | true =>
        have e2 : [u, v].all isI = true := by simpa using hI
        rw [e2] at al
        obtain ⟨x, y, rfl, rfl⟩ := I_of hI
        simp only [isI] at al key
        have hy : Lt 9000 y := by
          cases hds (.int y) (by simp) with
          | int h => exact h.mono hk
        have cg := gcd_spec (S := S) (n := n + d) hg x y (B.fuel y hy)
        have fg := fill_of (C := C) (ds := [.int x, .int y]) hg rfl
        have e3 : decide (1 ≤ y) = decide (0 < y) := by
          by_cases z : 0 < y
          · rw [decide_eq_true z, decide_eq_true (by omega)]
          · rw [decide_eq_false z, decide_eq_false (by omega)]
        have e4 : decide ((Int.gcd x y : Int) = 1) = decide (Int.gcd x y = 1) := by
          by_cases z : Int.gcd x y = 1
          · rw [decide_eq_true z, decide_eq_true (by omega)]
          · rw [decide_eq_false z, decide_eq_false (by omega)]
        have cg : evCall C (n + (d + 1)) g [.int x, .int y] S = _ := cg
        by_cases z : 1 ≤ y
        · have z' : 0 < y := by omega
          simp [t_is_number, ty_tup hx, isTup, key, al, fg, cg, z, isNum, z', e4]
        · have z' : ¬ 0 < y := by omega
          simp [t_is_number, ty_tup hx, isTup, key, al, z, isNum, z']
    · have hl' : ¬ ((ds.length : Int) = 2) := by omega
      simp [t_is_number, ty_tup hx, isTup, hl', isNum_len hl]
  | ref m => simp [t_is_number, ty_tup hx, isTup, isNum]
  | _ => simp [t_is_number, ty_tup hx, isTup, isNum]
end
end Q
end
section
-- M11
set_option Elab.async false
set_option linter.all false
set_option maxRecDepth 100000
namespace Q
open PySem (Str Operator CmpOp BoolOp PyData Paired)
section
variable {C : Q.Ctx} {call : Nat → List D → Store → Res R} {S : Store}
theorem num_iff {a b : Int} (hb : 0 < b) : ([(Rat.divInt a b).num, ((Rat.divInt a b).den : Int)] = [a, b]) ↔ Int.gcd a b = 1 := by
  constructor
  · intro h
    have h1 : (Rat.divInt a b).num = a := (List.cons.inj h).1
    have h2 : ((Rat.divInt a b).den : Int) = b := (List.cons.inj (List.cons.inj h).2).1
    have := (Rat.divInt a b).reduced
    rw [h1] at this
    have e : (Rat.divInt a b).den = b.natAbs := by omega
    rw [e] at this
    exact this
  · intro h
    have e := num_div (a := a) hb
    rw [h] at e
    have e1 : ∀ x : Int, x.fdiv ((1 : Nat) : Int) = x := fun x => by
      rw [Int.fdiv_eq_ediv_of_nonneg _ (by decide)]
      exact Int.ediv_one x
    rw [e1, e1] at e
    unfold num at e
    injection e with e
    injection e with e2 e3
    injection e3 with e3 _
    injection e2 with e2
    injection e3 with e3
    rw [← e2, ← e3]
theorem lnum_spec (B : Big C) {i r k d : Nat} (h : C.fns[i]? = some (F_law_is_number r)) (hr : C.fns[r]? = some fFr) (hk : k ≤ 9000) : SJ C (d + 2) i k isNum := by
  refine ⟨fun x => fill_of h rfl, fun n S x hx => ?_⟩
  refine ev_pure (n := n + (d + 1)) h rfl ?_
  show evSs C (evCall C (n + (d + 1))) (t_law_is_number r) [some x, none] S = _
  cases x with
  | tup ds =>
    have hds := va_of_tup hx
    rcases two_or ds with ⟨u, v, rfl⟩ | hl
    · have eI : evI C (evCall C (n + (d + 1))) (.seq (.var 0)) [some (.tup [u, v]), none] S = .ok (.its [u, v]) S := evI_row (by simp)
      have bd : ∀ y z, Pu k 60 y → evSs C (evCall C (n + (d + 1))) (.cons (.ife (.bop .Or (.cons (.not (.isi (.var 1) .int)) (.cons (.isi (.var 1) .bool) .nil))) (.cons (.ret (.bl false)) .nil) .nil) .nil) [z, some y] S = if isI y then .ok (.nx [z, some y]) S else .ok (.rt (.v (.bl false))) S := fun y z hy => by
        have t1 := ty_int (S := S) (Va.pu (n := S.length) hy)
        have t2 := ty_bool (S := S) (Va.pu (n := S.length) hy)
        cases y <;> simp [t1, t2, isI, isB]
      cases hI : isI u && isI v with
      | false =>
        have es : evS C (evCall C (n + (d + 1))) (.for (.nm 1) (.seq (.var 0)) (.cons (.ife (.bop .Or (.cons (.not (.isi (.var 1) .int)) (.cons (.isi (.var 1) .bool) .nil))) (.cons (.ret (.bl false)) .nil) .nil) .nil)) [some (.tup [u, v]), none] S = .ok (.rt (.v (.bl false))) S := by
          rw [s_for eI, forL, asT_nm]
          show (evSs C (evCall C (n + (d + 1))) _ [some (.tup [u, v]), some u] S).bind _ = _
          rw [bd u _ (hds u (by simp))]
          cases hu : isI u with
          | false => simp
          | true =>
            rw [hu] at hI
            simp only [Bool.true_and] at hI
            simp only [if_true, Res.bind_ok]
            rw [forL, asT_nm]
            show (evSs C (evCall C (n + (d + 1))) _ [some (.tup [u, v]), some v] S).bind _ = _
            rw [bd v _ (hds v (by simp)), hI]
            simp
        simp [t_law_is_number, ty_tup hx, isTup, es, isNum_two hI]
      | true =>
        obtain ⟨x, y, rfl, rfl⟩ := I_of hI
        have es : evS C (evCall C (n + (d + 1))) (.for (.nm 1) (.seq (.var 0)) (.cons (.ife (.bop .Or (.cons (.not (.isi (.var 1) .int)) (.cons (.isi (.var 1) .bool) .nil))) (.cons (.ret (.bl false)) .nil) .nil) .nil)) [some (.tup [.int x, .int y]), none] S = .ok (.nx [some (.tup [.int x, .int y]), some (.int y)]) S := by
          rw [s_for eI, forL, asT_nm]
          show (evSs C (evCall C (n + (d + 1))) _ [some (.tup [.int x, .int y]), some (.int x)] S).bind _ = _
          rw [bd (.int x) _ (hds _ (by simp))]
          simp only [isI, if_true, Res.bind_ok]
          rw [forL, asT_nm]
          show (evSs C (evCall C (n + (d + 1))) _ [some (.tup [.int x, .int y]), some (.int y)] S).bind _ = _
          rw [bd (.int y) _ (hds _ (by simp))]
          simp only [isI, if_true, Res.bind_ok]
          rw [forL]
        have hy : Lt 9000 y := by
          cases hds (.int y) (by simp) with
          | int h => exact h.mono hk
        have hx' : Lt 9000 x := by
          cases hds (.int x) (by simp) with
          | int h => exact h.mono hk
        have fg := fill_of (C := C) (ds := [.int x, .int y]) hr rfl
        by_cases z : 0 < y
        · have cg : evCall C (n + (d + 1)) r [.int x, .int y] S = _ := fr_spec (S := S) (n := n + d) B hr x y (by omega) hx' hy
          have eq : evCmp .Eq S (.v (num (Rat.divInt x y))) (.v (.tup [.int x, .int y])) = some (decide (Int.gcd x y = 1)) := by
            have := eq_ints S [(Rat.divInt x y).num, ((Rat.divInt x y).den : Int)] [x, y]
            refine this.trans ?_
            congr 1
            exact decide_eq_decide.mpr (num_iff z)
          simp [t_law_is_number, ty_tup hx, isTup, es, fg, cg, z, isNum, eq]
        · simp [t_law_is_number, ty_tup hx, isTup, es, z, isNum]
    · have hl' : ¬ ((ds.length : Int) = 2) := by omega
      simp [t_law_is_number, ty_tup hx, isTup, hl', isNum_len hl]
  | ref m => simp [t_law_is_number, ty_tup hx, isTup, isNum]
  | _ => simp [t_law_is_number, ty_tup hx, isTup, isNum]
/-! ### rows -/
def isRow (w : Nat) : D → Bool
  | .tup ds => decide (ds.length = w) && ds.all isNum
  | _ => false
/-- a judge of a width -/
structure SJw (C : Q.Ctx) (d i : Nat) (P : Nat → Store → D → Prop) (f : Nat → D → Bool) : Prop where
  fill : ∀ w x, Q.fill C i [w, x] = some [w, x]
  run : ∀ n S (w : Nat) x, P w S x → evCall C (n + d) i [.int w, x] S = .ok (.v (.bl (f w x))) S
theorem isrow_spec {i a k d : Nat} (h : C.fns[i]? = some (F_is_plain_row a)) (ha : SJ C d a k isNum) : SJw C (d + 1) i (fun _ S x => Va k S.length x) isRow := by
  refine ⟨fun w x => fill_of h rfl, fun n S w x hx => ?_⟩
  refine ev_pure (n := n + d) h rfl ?_
  show evSs C (evCall C (n + d)) (t_is_plain_row a) [some (.int w), some x, none] S = _
  cases x with
  | tup ds =>
    have hds := va_of_tup hx
    have key := lc_map (C := C) (call := evCall C (n + d)) (S := S) (elt := .call a (.cons (.var 2) .nil)) (tg := .nm 2) (it := .seq (.var 1)) (k := 0) (ρ := [some (.int w), some (.tup ds), none]) (l := ds) (f := fun x => x)
      (g := fun x => .bl (isNum x)) (by rw [List.map_id']; exact evI_row (by simp)) fun y hy => by
      refine ⟨_, asT_nm, ?_⟩
      show evE C (evCall C (n + d)) _ [some (.int w), some (.tup ds), some y] S = _
      simp [ha.fill, ha.run n S y (.pu (hds y hy))]
    have al := all_t (S := S) isNum ds
    by_cases hl : ds.length = w
    · simp [t_is_plain_row, ty_tup hx, isTup, hl, key, al, isRow]
    · have hl' : ¬ ((ds.length : Int) = (w : Int)) := by omega
      simp [t_is_plain_row, ty_tup hx, isTup, hl', hl, isRow]
  | ref m => simp [t_is_plain_row, ty_tup hx, isTup, isRow]
  | _ => simp [t_is_plain_row, ty_tup hx, isTup, isRow]
/-- a list of data is empty -/
theorem eq_nil {ds : List D} (h : ∀ d ∈ ds, ∃ p, Py d p 60) : evCmp .Eq S (.t ds) (.t []) = some ds.isEmpty ∧ evCmp .NotEq S (.t ds) (.t []) = some (!ds.isEmpty) := by
  have : ∃ ps, Paired (fun d p => Py d p 60) ds ps := by
    induction ds with
    | nil => exact ⟨[], .nil⟩
    | cons d r ih =>
      obtain ⟨p, hp⟩ := h d List.mem_cons_self
      obtain ⟨ps, hps⟩ := ih fun x hx => h x (List.mem_cons_of_mem _ hx)
      exact ⟨p :: ps, .cons hp hps⟩
  obtain ⟨ps, hps⟩ := this
  obtain ⟨h1, h2, h3⟩ := pys hps
  have e : eqR S (.t ds) (.t []) = some ds.isEmpty := by
    unfold eqR
    have e1 : R.py S (.t ds) = some (.list ps) := by
      show (ds.mapM (D.py S 65)).map PyData.list = _
      rw [h1 S 65 (by omega)]
      rfl
    have e2 : R.py S (.t []) = some (.list []) := rfl
    rw [e1, e2]
    dsimp only
    have sh : (PyData.list ps).canLay0 = true := by rw [PyData.canLay0, h2]
    have sd : (PyData.list ps).depth ≤ 64 := by rw [PyData.depth]; omega
    rw [if_pos]
    · cases hps with
      | nil => rw [PyData.eqv, PyData.eqvAll]; rfl
      | cons _ _ => rw [PyData.eqv, PyData.eqvAll]; rfl
    · unfold PySem.SeqAt.shaped
      rw [sh, decide_eq_true sd]
      rfl
  exact ⟨by rw [evc_eq, e], by rw [evc_ne, e]; rfl⟩
theorem lrow_spec {i a k d : Nat} (h : C.fns[i]? = some (F_law_is_row a)) (ha : SJ C d a k isNum) : SJw C (d + 1) i (fun _ S x => Va k S.length x) isRow := by
  refine ⟨fun w x => fill_of h rfl, fun n S w x hx => ?_⟩
  refine ev_pure (n := n + d) h rfl ?_
  show evSs C (evCall C (n + d)) (t_law_is_row a) [some (.int w), some x, none] S = _
  cases x with
  | tup ds =>
    have hds := va_of_tup hx
    have key := lc_filter (C := C) (call := evCall C (n + d)) (S := S) (elt := .var 2) (c := .so (.not (.call a (.cons (.var 2) .nil)))) (tg := .nm 2) (it := .seq (.var 1)) (k := 0) (ρ := [some (.int w), some (.tup ds), none]) (l := ds) (f := fun x => x)
      (p := fun x => !isNum x) (g := fun x => x) (by rw [List.map_id']; exact evI_row (by simp)) fun y hy => by
      refine ⟨_, asT_nm, ?_, fun _ => ?_⟩
      · show evC C (evCall C (n + d)) _ [some (.int w), some (.tup ds), some y] S = _
        simp [ha.fill, ha.run n S y (.pu (hds y hy))]
      · show evE C (evCall C (n + d)) _ [some (.int w), some (.tup ds), some y] S = _
        simp
    rw [List.map_id'] at key
    have en := (eq_nil (S := S) (ds := ds.filter fun x => !isNum x) fun d hd => (hds d (List.mem_filter.mp hd).1).py).1
    have ee : (ds.filter fun x => !isNum x).isEmpty = ds.all isNum := by
      rw [Bool.eq_iff_iff, List.isEmpty_iff, List.filter_eq_nil_iff, List.all_eq_true]
      simp
    by_cases hl : ds.length = w
    · simp [t_law_is_row, ty_tup hx, isTup, hl, key, en, ee, isRow]
    · have hl' : ¬ ((ds.length : Int) = (w : Int)) := by omega
      simp [t_law_is_row, ty_tup hx, isTup, hl', hl, isRow]
  | ref m => simp [t_law_is_row, ty_tup hx, isTup, isRow]
  | _ => simp [t_law_is_row, ty_tup hx, isTup, isRow]
end
end Q
end
section
-- M12
set_option Elab.async false
set_option linter.all false
set_option maxRecDepth 100000
namespace Q
open PySem (Str Operator CmpOp BoolOp PyData Paired)
/-! ### chances -/
def numOf : D → Rat
  | .tup [.int a, .int b] => Rat.divInt a b
  | _ => 0
def rowOf : D → List Rat
  | .tup ds => ds.map numOf
  | _ => []
theorem isNum_iff {d : D} (h : isNum d = true) : d = num (numOf d) := by
  unfold isNum at h
  split at h
  · rename_i a b
    obtain ⟨h1, h2⟩ := and2 h
    have e := (num_iff (a := a) (of_decide_eq_true h1)).mpr (of_decide_eq_true h2)
    show _ = num (Rat.divInt a b)
    unfold num
    injection e with e1 e2
    injection e2 with e2 _
    rw [e1, e2]
  · cases h
theorem isRow_iff {w : Nat} {d : D} (h : isRow w d = true) : d = row (rowOf d) ∧ (rowOf d).length = w := by
  cases d with
  | tup ds =>
    obtain ⟨h1, h2⟩ := and2 (show (decide (ds.length = w) && ds.all isNum) = true from h)
    refine ⟨?_, by show (ds.map numOf).length = w; rw [List.length_map]; exact of_decide_eq_true h1⟩
    unfold row rowOf
    rw [List.map_map]
    congr 1
    rw [List.all_eq_true] at h2
    have : ds.map (num ∘ numOf) = ds.map id := List.map_congr_left fun x hx => (isNum_iff (h2 x hx)).symm
    rw [this, List.map_id]
  | _ => cases h
def isMix (w : Nat) (d : D) : Bool := isRow w d && (rowOf d).all (fun x => decide (0 ≤ x.num))
def isCh (w : Nat) (d : D) : Bool := isMix w d && decide (sumL (rowOf d) = 1)
theorem numOf_num (q : Rat) : numOf (num q) = q := by
  show Rat.divInt q.num q.den = q
  exact Rat.num_divInt_den q
theorem rowOf_row (r : List Rat) : rowOf (row r) = r := by
  show (r.map num).map numOf = r
  rw [List.map_map]
  have : r.map (numOf ∘ num) = r.map id := List.map_congr_left fun x _ => numOf_num x
  rw [this, List.map_id]
theorem isNum_num (q : Rat) : isNum (num q) = true := by
  show (decide (0 < (q.den : Int)) && decide (Int.gcd q.num q.den = 1)) = true
  have h1 := q.den_pos
  have h2 : Int.gcd q.num q.den = 1 := q.reduced
  rw [decide_eq_true (by omega), decide_eq_true h2]
  rfl
theorem isRow_row (r : List Rat) (w : Nat) : isRow w (row r) = decide (r.length = w) := by
  show (decide ((r.map num).length = w) && (r.map num).all isNum) = _
  rw [List.length_map, List.all_map]
  have : r.all (isNum ∘ num) = true := List.all_eq_true.mpr fun x _ => isNum_num x
  rw [this, Bool.and_true]
/-- the numbers of a row of small data are small -/
theorem sz_of {k n : Nat} {d : D} {w : Nat} (h : isRow w d = true) (v : Va k n d) : ∀ x ∈ rowOf d, Sz k x := by
  cases d with
  | tup ds =>
    have hds := va_of_tup v
    obtain ⟨h1, h2⟩ := and2 (show (decide (ds.length = w) && ds.all isNum) = true from h)
    rw [List.all_eq_true] at h2
    intro x hx
    obtain ⟨y, hy, rfl⟩ := List.mem_map.mp hx
    have e := isNum_iff (h2 y hy)
    have p := hds y hy
    rw [e] at p
    cases p with
    | tup p =>
      refine ⟨?_, ?_⟩
      · cases p (.int (numOf y).num) (by simp) with
        | int h => exact h
      · cases p (.int (numOf y).den) (by simp) with
        | int h => exact h
  | _ => cases h
section
variable {C : Q.Ctx} {call : Nat → List D → Store → Res R} {S : Store}
def SPos (C : Q.Ctx) (d i : Nat) : Prop := ∀ r, Sp C d i [row r] (.v (.bl (r.all fun x => decide (0 ≤ x.num))))
theorem pos_spec {i : Nat} (h : C.fns[i]? = some F_are_from_nought) : SPos C 1 i := by
  intro r
  refine Sp.by (d := 0) h rfl fun n S => ?_
  show evSs C (evCall C n) t_are_from_nought [some (row r), none] S = _
  have key := lc_map (C := C) (call := evCall C n) (S := S) (elt := .cmp .GtE (.idx (.var 1) (.int 0)) (.int 0)) (tg := .nm 1) (it := .seq (.var 0)) (k := 0) (ρ := [some (row r), none]) (l := r) (f := num)
    (g := fun x => .bl (decide (0 ≤ x.num))) (evI_row (by simp [row])) fun y hy => by
    refine ⟨_, asT_nm, ?_⟩
    show evE C (evCall C n) _ [some (row r), some (num y)] S = _
    simp
  have al := all_t (S := S) (fun x : Rat => decide (0 ≤ x.num)) r
  simp only [t_are_from_nought, evSs, s_ret, e_bi1, key, Res.bind_ok, al]
theorem mix_spec {i a b d : Nat} {k : Nat} (h : C.fns[i]? = some (F_is_plain_mix a b)) (ha : SJw C d a (fun _ S x => Va k S.length x) isRow) (hb : SPos C d b) : SJw C (d + 1) i (fun _ S x => Va k S.length x) isMix := by
  refine ⟨fun w x => fill_of h rfl, fun n S w x hx => ?_⟩
  refine ev_pure (n := n + d) h rfl ?_
  show evSs C (evCall C (n + d)) (t_is_plain_mix a b) [some (.int w), some x] S = _
  have ra := ha.run n S w x hx
  cases hr : isRow w x with
  | false =>
    rw [hr] at ra
    simp [t_is_plain_mix, ha.fill, ra, isMix, hr]
  | true =>
    rw [hr] at ra
    obtain ⟨e1, e2⟩ := isRow_iff hr
    have rb := hb (rowOf x)
    rw [← e1] at rb
    simp [t_is_plain_mix, ha.fill, ra, isMix, hr, rb.fill, rb.run]
theorem ch_spec {i a b g d : Nat} {k : Nat} (h : C.fns[i]? = some (F_is_plain_chances a b g)) (ha : SJw C d a (fun _ S x => Va k S.length x) isMix) (hb : SSum C d b) (hg : C.glb[g]? = some (num 1)) : SJw C (d + 1) i (fun w S x => Va k S.length x ∧ (w + 1) * (k + 1) + 1 ≤ 4000) isCh := by
  refine ⟨fun w x => fill_of h rfl, fun n S w x ⟨hx, hk⟩ => ?_⟩
  refine ev_pure (n := n + d) h rfl ?_
  show evSs C (evCall C (n + d)) (t_is_plain_chances a b g) [some (.int w), some x] S = _
  have ra := ha.run n S w x hx
  cases hr : isMix w x with
  | false =>
    rw [hr] at ra
    simp [t_is_plain_chances, ha.fill, ra, isCh, hr]
  | true =>
    rw [hr] at ra
    have hr' := (and2 (show (isRow w x && _) = true from hr)).1
    obtain ⟨e1, e2⟩ := isRow_iff hr'
    have rb := hb k (rowOf x) (sz_of hr' hx) (by rw [e2]; exact hk)
    rw [← e1] at rb
    simp [t_is_plain_chances, ha.fill, ra, isCh, hr, rb.fill, rb.run, hg]
theorem lch_spec {i a b d : Nat} {k : Nat} (h : C.fns[i]? = some (F_law_sr_is_chances a b)) (ha : SJw C d a (fun _ S x => Va k S.length x) isRow) (hb : SAdd C d b) : SJw C (d + 1) i (fun w S x => Va k S.length x ∧ (w + 1) * (k + 1) + 1 ≤ 4000) isCh := by
  refine ⟨fun w x => fill_of h rfl, fun n S w x ⟨hx, hk⟩ => ?_⟩
  refine ev_pure (n := n + d) h rfl ?_
  show evSs C (evCall C (n + d)) (t_law_sr_is_chances a b) [some (.int w), some x, none, none] S = _
  have ra := ha.run n S w x hx
  cases hr : isRow w x with
  | false =>
    rw [hr] at ra
    simp [t_law_sr_is_chances, ha.fill, ra, isCh, isMix, hr]
  | true =>
    rw [hr] at ra
    obtain ⟨e1, e2⟩ := isRow_iff hr
    have hs := sz_of hr hx
    generalize hp : rowOf x = p at *
    have key := lc_filter (C := C) (call := evCall C (n + d)) (S := S) (elt := .int 1) (c := .so (.cmp .Lt (.idx (.var 3) (.int 0)) (.int 0))) (tg := .nm 3) (it := .seq (.var 1)) (k := 0) (ρ := [some (.int w), some x, none, none]) (l := p) (f := num)
      (p := fun x => decide (x.num < 0)) (g := fun _ => .int 1) (evI_row (by simp [e1, row])) fun y hy => by
      refine ⟨_, asT_nm, ?_, fun _ => ?_⟩
      · show evC C (evCall C (n + d)) _ [some (.int w), some x, none, some (num y)] S = _
        simp
      · simp
    have en := (eq_nil (S := S) (ds := (p.filter fun x => decide (x.num < 0)).map fun _ => D.int 1) fun d hd => by
      obtain ⟨_, _, rfl⟩ := List.mem_map.mp hd
      exact ⟨_, (py_int 1).mono (by decide)⟩).2
    have ee : ((p.filter fun x => decide (x.num < 0)).map fun _ => D.int 1).isEmpty = p.all (fun x => decide (0 ≤ x.num)) := by
      rw [Bool.eq_iff_iff, List.isEmpty_iff, List.map_eq_nil_iff, List.filter_eq_nil_iff, List.all_eq_true]
      simp
    cases hm : p.all (fun x => decide (0 ≤ x.num)) with
    | false =>
      rw [hm] at ee
      have ef : isCh w x = false := by unfold isCh isMix; rw [hr, hp, hm]; rfl
      simp [t_law_sr_is_chances, ha.fill, ra, key, en, ee, ef]
    | true =>
      rw [hm] at ee
      obtain ⟨ρ', S', e, x', e3, e4⟩ := forL_typed (S := S) (f := num) (turn := fun d' ρ S => (calm (asT C (evCall C (n + d)) (.nm 3) d' ρ S)).bind fun ρ S => evSs C (evCall C (n + d)) (.cons (.asg (.nm 2) (.call b (.cons (.var 2) (.cons (.var 3) .nil)))) .nil) ρ S) (l := p) (ρ := [some (.int w), some x, some (num 0), none])
        (fun done ρ S' => ∃ x', ρ = [some (.int w), some x, some (num (sumL done)), x'] ∧ S' = S) (fun done b' rest ρ S' el ⟨x', e3, e4⟩ => by
          subst e3
          rw [e4]
          have hb' : ∀ y ∈ done, Sz k y := fun y hy => hs y (by rw [el]; exact List.mem_append_left _ hy)
          have hl : done.length + 1 ≤ p.length := by rw [el, List.length_append, List.length_cons]; omega
          have hm' : (done.length + 1) * (k + 1) ≤ w * (k + 1) := Nat.mul_le_mul_right _ (by omega)
          rw [Nat.add_mul, Nat.one_mul] at hm' hk
          have c := hb _ k (sumL done) b' (sz_sum done hb') (hs b' (by rw [el]; simp)) (by omega)
          refine ⟨[some (.int w), some x, some (num (sumL (done ++ [b']))), some (num b')], S, .inl ?_, _, rfl, rfl⟩
          simp [calm, c.fill, c.run, sumL_snoc]) ⟨none, rfl, rfl⟩
      rw [e3, e4] at e
      have eI : evI C (evCall C (n + d)) (.seq (.var 1)) [some (.int w), some x, some (num 0), none] S = .ok (.its (p.map num)) S := evI_row (by simp [e1, row])
      have es := (s_for eI).trans e
      have e0 : D.tup [.int 0, .int 1] = num 0 := rfl
      have e5 : D.tup [.int 1, .int 1] = num 1 := rfl
      have ef : isCh w x = decide (sumL p = 1) := by unfold isCh isMix; rw [hr, hp, hm]; rfl
      simp [t_law_sr_is_chances, ha.fill, ra, key, en, ee, ef, calm, e0, e5, es]
end
end Q
end
section
-- M13
set_option Elab.async false
set_option linter.all false
set_option maxRecDepth 100000
namespace Q
open PySem (Str Operator CmpOp BoolOp PyData Paired)
/-! ### what is required -/
/-- chances of w places, below 2^k -/
structure Ch (w k : Nat) (r : List Rat) : Prop where
  len : r.length = w
  sz : ∀ x ∈ r, Sz k x
  pos : ∀ x ∈ r, 0 ≤ x
  sum : sumL r = 1
structure Ln (w k : Nat) (r : List Rat) : Prop where
  len : r.length = w
  sz : ∀ x ∈ r, Sz k x
theorem Ch.ln {w k : Nat} {r : List Rat} (h : Ch w k r) : Ln w k r := ⟨h.len, h.sz⟩
theorem all_pos {r : List Rat} (h : ∀ x ∈ r, 0 ≤ x) : (r.all fun x => decide (0 ≤ x.num)) = true := List.all_eq_true.mpr fun x hx => decide_eq_true (Rat.num_nonneg.mpr (h x hx))
theorem isRow_ln {w k : Nat} {r : List Rat} (h : Ln w k r) : isRow w (row r) = true := by
  rw [isRow_row, h.len]
  simp
theorem isCh_ch {w k : Nat} {r : List Rat} (h : Ch w k r) : isCh w (row r) = true := by
  unfold isCh isMix
  rw [isRow_ln h.ln, rowOf_row, all_pos h.pos, h.sum]
  rfl
theorem pu_num {k n : Nat} {q : Rat} (h : Sz k q) : Pu k (n + 1) (num q) := .tup fun d hd => by
  rcases List.mem_cons.mp hd with z | z
  · subst z; exact .int h.n
  · rw [List.mem_singleton] at z; subst z; exact .int h.d
theorem pu_row {k n : Nat} {r : List Rat} (h : ∀ x ∈ r, Sz k x) : Pu k (n + 2) (row r) := .tup fun d hd => by
  obtain ⟨x, hx, rfl⟩ := List.mem_map.mp hd
  exact pu_num (h x hx)
section
variable {C : Q.Ctx} {call : Nat → List D → Store → Res R} {S : Store}
theorem Sp.by0 {d i : Nat} {F : Fn} {ds : List D} (h : C.fns[i]? = some F) (hl : ds.length = F.np) (e : ∀ n S, ∃ ρ, evSs C (evCall C (n + d)) F.body (start F ds) S = .ok (.nx ρ) S) : Sp C (d + 1) i ds (.v .non) := ⟨fill_of h hl, fun n S => by
  obtain ⟨ρ, e⟩ := e n S
  exact ev_none h hl e⟩
def SCount (C : Q.Ctx) (d i : Nat) : Prop := ∀ v l m : Int, Lt 100 v → l ≤ v → v ≤ m → Sp C d i [.int v, .int l, .int m] (.v .non)
theorem count_spec {i a d : Nat} (h : C.fns[i]? = some (F_require_count a)) (ha : SJ C d a 100 isI) : SCount C (d + 1) i := by
  intro v l m hv h1 h2
  refine Sp.by0 h rfl fun n S => ⟨[some (.int v), some (.int l), some (.int m)], ?_⟩
  show evSs C (evCall C (n + d)) (t_require_count a) [some (.int v), some (.int l), some (.int m)] S = _
  have ra := ha.run n S (.int v) (.pu (.int hv))
  simp [t_require_count, ha.fill, ra, isI, h1, h2]
def SWidth (C : Q.Ctx) (d i : Nat) : Prop := ∀ w : Nat, 1 ≤ w → w ≤ 8 → Sp C d i [.int w] (.v .non)
theorem lt_nat {w : Nat} (h : w ≤ 8) : Lt 100 (w : Int) := by
  have : Lt 4 (w : Int) := by
    unfold Lt
    rw [Int.natAbs_natCast]
    omega
  exact this.mono (by decide)
theorem width_spec {i a g d : Nat} (h : C.fns[i]? = some (F_require_width a g)) (ha : SCount C d a) (hg : C.glb[g]? = some (.int 8)) : SWidth C (d + 1) i := by
  intro w h1 h2
  refine Sp.by0 h rfl fun n S => ⟨[some (.int w)], ?_⟩
  show evSs C (evCall C (n + d)) (t_require_width a g) [some (.int w)] S = _
  have c := ha w 1 8 (lt_nat h2) (by omega) (by omega)
  simp [t_require_width, hg, c.fill, c.run]
def SReqCh (C : Q.Ctx) (d i : Nat) : Prop := ∀ w k r, Ch w k r → k ≤ 100 → w ≤ 8 → Sp C d i [.int w, row r] (.v .non)
theorem va_row {k n : Nat} {r : List Rat} (h : ∀ x ∈ r, Sz k x) (e : k ≤ 100) : Va 100 n (row r) := .pu (pu_row (n := 58) fun x hx => (h x hx).mono e)
theorem le_8 {w : Nat} (h : w ≤ 8) : (w + 1) * (100 + 1) + 1 ≤ 4000 := by
  have := Nat.mul_le_mul_right 101 (show w + 1 ≤ 9 by omega)
  omega
abbrev SIsCh (C : Q.Ctx) (d i : Nat) : Prop := SJw C d i (fun w S x => Va 100 S.length x ∧ (w + 1) * (100 + 1) + 1 ≤ 4000) isCh
theorem reqch_spec {i a d : Nat} (h : C.fns[i]? = some (F_require_chances a)) (ha : SIsCh C d a) : SReqCh C (d + 1) i := by
  intro w k r hr hk hw
  refine Sp.by0 h rfl fun n S => ⟨[some (.int w), some (row r)], ?_⟩
  show evSs C (evCall C (n + d)) (t_require_chances a) [some (.int w), some (row r)] S = _
  have ra := ha.run n S w (row r) ⟨va_row hr.sz hk, le_8 hw⟩
  rw [isCh_ch hr] at ra
  simp [t_require_chances, ha.fill, ra]
def SReqLn (C : Q.Ctx) (d i : Nat) : Prop := ∀ w k r, Ln w k r → k ≤ 100 → Sp C d i [.int w, row r] (.v .non)
theorem reqln_spec {i a d : Nat} (h : C.fns[i]? = some (F_require_line a)) (ha : SJw C d a (fun _ S x => Va 100 S.length x) isRow) : SReqLn C (d + 1) i := by
  intro w k r hr hk
  refine Sp.by0 h rfl fun n S => ⟨[some (.int w), some (row r)], ?_⟩
  show evSs C (evCall C (n + d)) (t_require_line a) [some (.int w), some (row r)] S = _
  have ra := ha.run n S w (row r) (va_row hr.sz hk)
  rw [isRow_ln hr] at ra
  simp [t_require_line, ha.fill, ra]
def SReqSh (C : Q.Ctx) (d i : Nat) : Prop := ∀ k q, Sz k q → k ≤ 100 → 0 ≤ q → q ≤ 1 → Sp C d i [num q] (.v .non)
theorem le_one {q : Rat} (h : q ≤ 1) : q.num ≤ (q.den : Int) := by
  have := (Rat.le_iff _ _).mp h
  simpa using this
theorem reqsh_spec {i a d : Nat} (h : C.fns[i]? = some (F_require_share a)) (ha : SJ C d a 100 isNum) : SReqSh C (d + 1) i := by
  intro k q hq hk h0 h1
  refine Sp.by0 h rfl fun n S => ⟨[some (num q)], ?_⟩
  show evSs C (evCall C (n + d)) (t_require_share a) [some (num q)] S = _
  have ra := ha.run n S (num q) (.pu (pu_num (n := 59) (hq.mono hk)))
  rw [isNum_num] at ra
  have h2 : 0 ≤ q.num := Rat.num_nonneg.mpr h0
  have h3 := le_one h1
  simp only [t_require_share, evSs, s_ife, e_bop, evBop, e_not, e_call, evEs, e_var, slot0, Res.bind_ok, settle_v, ha.fill, opt_some, ra, truth_bl, Bool.not_true, Bool.false_eq_true, if_false, e_chn, e_int, e_idx, ix_num0, ix_num1, le_int, decide_eq_true h2, decide_eq_true h3, if_true]
/-! ### tables -/
/-- data, or a tuple of such -/
inductive Vt (k n : Nat) : D → Prop where
  | va {d : D} (h : Va k n d) (z : ∀ ds, d ≠ .tup ds) : Vt k n d
  | tup {ds : List D} (h : ∀ d ∈ ds, Va k n d) : Vt k n (.tup ds)
theorem tyt {k : Nat} {d : D} (h : Vt k S.length d) : tyIs S (.v d) .tuple = some (isTup d) := by
  cases h with
  | va h _ => exact ty_tup h
  | tup h => rfl
def isTb (h w : Nat) : D → Bool
  | .tup ds => decide (ds.length = h) && ds.all (isCh w)
  | _ => false
structure SJt (C : Q.Ctx) (d i : Nat) (P : Nat → Nat → Store → D → Prop) (f : Nat → Nat → D → Bool) : Prop where
  fill : ∀ h w x, Q.fill C i [h, w, x] = some [h, w, x]
  run : ∀ n S (h w : Nat) x, P h w S x → evCall C (n + d) i [.int h, .int w, x] S = .ok (.v (.bl (f h w x))) S
abbrev SIsTb (C : Q.Ctx) (d i : Nat) : Prop := SJt C d i (fun _ w S x => Vt 100 S.length x ∧ (w + 1) * (100 + 1) + 1 ≤ 4000) isTb
theorem tb_spec {i a d : Nat} (h : C.fns[i]? = some (F_are_chance_rows a)) (ha : SIsCh C d a) : SIsTb C (d + 1) i := by
  refine ⟨fun _ w x => fill_of h rfl, fun n S g w x ⟨hx, hk⟩ => ?_⟩
  refine ev_pure (n := n + d) h rfl ?_
  show evSs C (evCall C (n + d)) (t_are_chance_rows a) [some (.int g), some (.int w), some x, none] S = _
  cases x with
  | tup ds =>
    have hds : ∀ d ∈ ds, Va 100 S.length d := by
      cases hx with
      | va _ z => exact absurd rfl (z ds)
      | tup h => exact h
    have key := lc_map (C := C) (call := evCall C (n + d)) (S := S) (elt := .call a (.cons (.var 1) (.cons (.var 3) .nil))) (tg := .nm 3) (it := .seq (.var 2)) (k := 0) (ρ := [some (.int g), some (.int w), some (.tup ds), none]) (l := ds) (f := fun x => x)
      (g := fun x => .bl (isCh w x)) (by rw [List.map_id']; exact evI_row (by simp)) fun y hy => by
      refine ⟨_, asT_nm, ?_⟩
      show evE C (evCall C (n + d)) _ [some (.int g), some (.int w), some (.tup ds), some y] S = _
      simp [ha.fill, ha.run n S w y ⟨hds y hy, hk⟩]
    have al := all_t (S := S) (isCh w) ds
    by_cases hl : ds.length = g
    · simp [t_are_chance_rows, tyt hx, isTup, hl, key, al, isTb]
    · have hl' : ¬ ((ds.length : Int) = (g : Int)) := by omega
      simp [t_are_chance_rows, tyt hx, isTup, hl', hl, isTb]
  | _ => simp [t_are_chance_rows, tyt hx, isTup, isTb]
theorem ltb_spec {i a d : Nat} (h : C.fns[i]? = some (F_law_is_table a)) (ha : SIsCh C d a) : SIsTb C (d + 1) i := by
  refine ⟨fun _ w x => fill_of h rfl, fun n S g w x ⟨hx, hk⟩ => ?_⟩
  refine ev_pure (n := n + d) h rfl ?_
  show evSs C (evCall C (n + d)) (t_law_is_table a) [some (.int g), some (.int w), some x, none] S = _
  cases x with
  | tup ds =>
    have hds : ∀ d ∈ ds, Va 100 S.length d := by
      cases hx with
      | va _ z => exact absurd rfl (z ds)
      | tup h => exact h
    have key := lc_filter (C := C) (call := evCall C (n + d)) (S := S) (elt := .int 1) (c := .so (.not (.call a (.cons (.var 1) (.cons (.var 3) .nil))))) (tg := .nm 3) (it := .seq (.var 2)) (k := 0) (ρ := [some (.int g), some (.int w), some (.tup ds), none]) (l := ds) (f := fun x => x)
      (p := fun x => !isCh w x) (g := fun _ => .int 1) (by rw [List.map_id']; exact evI_row (by simp)) fun y hy => by
      refine ⟨_, asT_nm, ?_, fun _ => ?_⟩
      · show evC C (evCall C (n + d)) _ [some (.int g), some (.int w), some (.tup ds), some y] S = _
        simp [ha.fill, ha.run n S w y ⟨hds y hy, hk⟩]
      · simp
    have en := (eq_nil (S := S) (ds := (ds.filter fun x => !isCh w x).map fun _ => D.int 1) fun d hd => by
      obtain ⟨_, _, rfl⟩ := List.mem_map.mp hd
      exact ⟨_, (py_int 1).mono (by decide)⟩).1
    have ee : ((ds.filter fun x => !isCh w x).map fun _ => D.int 1).isEmpty = ds.all (isCh w) := by
      rw [Bool.eq_iff_iff, List.isEmpty_iff, List.map_eq_nil_iff, List.filter_eq_nil_iff, List.all_eq_true]
      simp
    by_cases hl : ds.length = g
    · simp [t_law_is_table, tyt hx, isTup, hl, key, en, ee, isTb]
    · have hl' : ¬ ((ds.length : Int) = (g : Int)) := by omega
      simp [t_law_is_table, tyt hx, isTup, hl', hl, isTb]
  | _ => simp [t_law_is_table, tyt hx, isTup, isTb]
end
end Q
end
section
-- M14
set_option Elab.async false
set_option linter.all false
set_option maxRecDepth 100000
namespace Q
open PySem (Str Operator CmpOp BoolOp PyData Paired)
/-! ### the functions of chances -/
section
variable {C : Q.Ctx} {call : Nat → List D → Store → Res R} {S : Store}
theorem ischances_spec {i a b d : Nat} (h : C.fns[i]? = some (F_is_chances a b)) (ha : SWidth C d a) (hb : SIsCh C d b) : SJw C (d + 1) i (fun w S x => Va 100 S.length x ∧ 1 ≤ w ∧ w ≤ 8) isCh := by
  refine ⟨fun w x => fill_of h rfl, fun n S w x ⟨hx, h1, h2⟩ => ?_⟩
  refine ev_pure (n := n + d) h rfl ?_
  show evSs C (evCall C (n + d)) (t_is_chances a b) [some (.int w), some x] S = _
  have c := ha w h1 h2
  simp [t_is_chances, c.fill, c.run, hb.fill, hb.run n S w x ⟨hx, le_8 h2⟩]
theorem istable_spec {i a b d : Nat} (h : C.fns[i]? = some (F_is_chance_table a b)) (ha : SWidth C d a) (hb : SIsTb C d b) : SJt C (d + 1) i (fun g w S x => Vt 100 S.length x ∧ 1 ≤ w ∧ w ≤ 8 ∧ 1 ≤ g ∧ g ≤ 8) isTb := by
  refine ⟨fun _ w x => fill_of h rfl, fun n S g w x ⟨hx, h1, h2, h3, h4⟩ => ?_⟩
  refine ev_pure (n := n + d) h rfl ?_
  show evSs C (evCall C (n + d)) (t_is_chance_table a b) [some (.int g), some (.int w), some x] S = _
  have c := ha w h1 h2
  have c' := ha g h3 h4
  simp [t_is_chance_table, c.fill, c.run, c'.fill, c'.run, hb.fill, hb.run n S g w x ⟨hx, le_8 h2⟩]
def unitL (w i : Nat) : List Rat := (List.range w).map fun j => if j = i then 1 else 0
def SUnit (C : Q.Ctx) (d i : Nat) : Prop := ∀ w j : Nat, w ≤ 8 → Sp C d i [.int w, .int j] (.v (row (unitL w j)))
theorem evI_rng1 {e : E} {ρ : Env} {w : Nat} (h : evE C call e ρ S = .ok (.v (.int w)) S) (hw : w ≤ 8) : evI C call (.rng1 e) ρ S = .ok (.its ((List.range w).map fun j : Nat => D.int j)) S := by
  rw [evI, h]
  show (if rngOk (w : Int) = true then _ else _) = _
  rw [if_pos]
  · unfold Q.range
    rw [Int.sub_zero, Int.toNat_natCast]
    simp
  · unfold rngOk
    simp
    omega
theorem unit_spec {i g g' : Nat} (h : C.fns[i]? = some (F_unit_row g g')) (hg : C.glb[g]? = some (num 1)) (hg' : C.glb[g']? = some (num 0)) : SUnit C 1 i := by
  intro w j hw
  refine Sp.by (d := 0) h rfl fun n S => ?_
  show evSs C (evCall C n) (t_unit_row g g') [some (.int w), some (.int j), none] S = _
  have key := lc_map (C := C) (call := evCall C n) (S := S) (elt := .ife (.cmp .Eq (.var 2) (.var 1)) (.glb g) (.glb g')) (tg := .nm 2) (it := .rng1 (.var 0)) (k := 0) (ρ := [some (.int w), some (.int j), none]) (l := List.range w) (f := fun j : Nat => D.int j)
    (g := fun x => num (if x = j then 1 else 0)) (evI_rng1 (by simp) hw) fun y hy => by
    refine ⟨_, asT_nm, ?_⟩
    show evE C (evCall C n) _ [some (.int w), some (.int j), some (.int y)] S = _
    by_cases z : y = j
    · simp [z, hg]
    · have z' : ¬ ((y : Int) = (j : Int)) := by omega
      simp [z', z, hg']
  simp [t_unit_row, key]
  simp [row, unitL]
theorem bool_int (S : Store) (b : Bool) : evBi1 .int S (.v (.bl b)) = .ok (.v (.int (if b then 1 else 0))) S := rfl
theorem lunit_spec {i : Nat} (h : C.fns[i]? = some F_law_sr_unit) : SUnit C 1 i := by
  intro w j hw
  refine Sp.by (d := 0) h rfl fun n S => ?_
  show evSs C (evCall C n) t_law_sr_unit [some (.int w), some (.int j), none] S = _
  have key := lc_map (C := C) (call := evCall C n) (S := S) (elt := .tup (.cons (.bi1 .int (.cmp .Eq (.var 2) (.var 1))) (.cons (.int 1) .nil))) (tg := .nm 2) (it := .rng1 (.var 0)) (k := 0) (ρ := [some (.int w), some (.int j), none]) (l := List.range w) (f := fun j : Nat => D.int j)
    (g := fun x => num (if x = j then 1 else 0)) (evI_rng1 (by simp) hw) fun y hy => by
    refine ⟨_, asT_nm, ?_⟩
    show evE C (evCall C n) _ [some (.int w), some (.int j), some (.int y)] S = _
    by_cases z : y = j
    · simp [z, bool_int]
      rfl
    · have z' : ¬ ((y : Int) = (j : Int)) := by omega
      simp [z', z, bool_int]
      rfl
  simp [t_law_sr_unit, key]
  simp [row, unitL]
theorem sure_spec {i a b u d : Nat} (h : C.fns[i]? = some (F_sure_chances a b u)) (ha : SWidth C d a) (hb : SJ C d b 100 isI) (hu : SUnit C d u) : ∀ w j : Nat, 1 ≤ w → w ≤ 8 → j < w → Sp C (d + 1) i [.int w, .int j] (.v (row (unitL w j))) := by
  intro w j h1 h2 hj
  refine Sp.by h rfl fun n S => ?_
  show evSs C (evCall C (n + d)) (t_sure_chances a b u) [some (.int w), some (.int j)] S = _
  have c := ha w h1 h2
  have cu := hu w j h2
  have ra := hb.run n S (.int j) (.pu (.int (lt_nat (by omega))))
  have z1 : (0 : Int) ≤ (j : Int) := by omega
  have z2 : (j : Int) < (w : Int) := by omega
  simp only [t_sure_chances, evSs, s_expr, s_ife, s_ret, e_bop, evBop, e_not, e_call, evEs, e_var, slot0, slotS, Res.bind_ok, settle_v, c.fill, c.run, hb.fill, opt_some, ra, isI, truth_bl, Bool.not_true, Bool.false_eq_true, if_false, e_chn, e_int, le_int, lt_int, decide_eq_true z1, decide_eq_true z2, if_true, cu.fill, cu.run]
def evenL (w : Nat) : List Rat := List.replicate w (Rat.divInt 1 w)
theorem num_one_div {w : Nat} (h : 1 ≤ w) : D.tup [.int 1, .int w] = num (Rat.divInt 1 w) := by
  have e := num_div (a := 1) (b := w) (by omega)
  have g : Int.gcd 1 (w : Int) = 1 := by simp
  rw [g] at e
  rw [← e]
  have e1 : ∀ x : Int, x.fdiv ((1 : Nat) : Int) = x := fun x => by
    rw [Int.fdiv_eq_ediv_of_nonneg _ (by decide)]
    exact Int.ediv_one x
  rw [e1, e1]
theorem evenby_spec {i : Nat} (h : C.fns[i]? = some F_even_by) : ∀ w : Nat, 1 ≤ w → w ≤ 8 → Sp C 1 i [.int w] (.v (row (evenL w))) := by
  intro w h1 h2
  refine Sp.by (d := 0) h rfl fun n S => ?_
  show evSs C (evCall C n) t_even_by [some (.int w)] S = _
  simp [t_even_by, num_one_div h1, mul_rep S w _ (by omega : w ≤ 1000), evenL]
theorem even_spec {i a b d : Nat} (h : C.fns[i]? = some (F_even_chances a b)) (ha : SWidth C d a) (hb : ∀ w : Nat, 1 ≤ w → w ≤ 8 → Sp C d b [.int w] (.v (row (evenL w)))) : ∀ w : Nat, 1 ≤ w → w ≤ 8 → Sp C (d + 1) i [.int w] (.v (row (evenL w))) := by
  intro w h1 h2
  refine Sp.by h rfl fun n S => ?_
  show evSs C (evCall C (n + d)) (t_even_chances a b) [some (.int w)] S = _
  have c := ha w h1 h2
  have c' := hb w h1 h2
  simp [t_even_chances, c.fill, c.run, c'.fill, c'.run]
/-- what lies between -/
def betw (s : Rat) (p q : List Rat) : List Rat := List.zipWith (· + ·) (p.map (s * ·)) (q.map ((1 - s) * ·))
def SBetw (C : Q.Ctx) (d i : Nat) : Prop := ∀ k s p q, Sz k s → (∀ x ∈ p, Sz k x) → (∀ x ∈ q, Sz k x) → k ≤ 100 → Sp C d i [num s, row p, row q] (.v (row (betw s p q)))
theorem mem_map_sz {k l : Nat} {s : Rat} {p : List Rat} (hs : Sz k s) (hp : ∀ x ∈ p, Sz l x) : ∀ x ∈ p.map (s * ·), Sz (k + l) x := fun x hx => by
  obtain ⟨y, hy, rfl⟩ := List.mem_map.mp hx
  exact sz_mul hs (hp y hy)
theorem one_sub (s : Rat) : (1 : Rat) + -s = 1 - s := by rw [Rat.sub_eq_add_neg]
theorem betwby_spec {i a m p n' g d : Nat} (h : C.fns[i]? = some (F_between_by a m p n' g)) (ha : SAddR C d a) (hm : SMulR C d m) (hp : SAdd C d p) (hn : SNeg C d n') (hg : C.glb[g]? = some (num 1)) : SBetw C (d + 1) i := by
  intro k s x y hs hx hy hk
  refine Sp.by h rfl fun n S => ?_
  show evSs C (evCall C (n + d)) (t_between_by a m p n' g) [some (num s), some (row x), some (row y)] S = _
  have c1 := hm k k s x hs hx (by omega)
  have c2 := hn s
  have c3 := hp 1 k 1 (-s) sz_one (sz_neg hs) (by omega)
  have z := sz_add sz_one (sz_neg hs)
  have c4 := hm _ k (1 + -s) y z hy (by omega)
  have c5 := ha _ _ (x.map (s * ·)) (y.map ((1 + -s) * ·)) (mem_map_sz hs hx) (mem_map_sz z hy) (by omega)
  simp only [t_between_by, evSs, s_ret, e_call, evEs, e_var, slot0, slotS, Res.bind_ok, settle_v, opt_some, e_glb, hg, c1.fill, c1.run, c2.fill, c2.run, c3.fill, c3.run, c4.fill, c4.run, c5.fill, c5.run]
  rw [one_sub]
  rfl
theorem lbetw_spec {i a m p d : Nat} (h : C.fns[i]? = some (F_law_between a m p)) (ha : SAddR C d a) (hm : SMulR C d m) (hp : SSub C d p) : SBetw C (d + 1) i := by
  intro k s x y hs hx hy hk
  refine Sp.by h rfl fun n S => ?_
  show evSs C (evCall C (n + d)) (t_law_between a m p) [some (num s), some (row x), some (row y)] S = _
  have c1 := hm k k s x hs hx (by omega)
  have c3 := hp 1 k 1 s sz_one hs (by omega)
  have z := sz_sub sz_one hs
  have c4 := hm _ k (1 - s) y z hy (by omega)
  have c5 := ha _ _ (x.map (s * ·)) (y.map ((1 - s) * ·)) (mem_map_sz hs hx) (mem_map_sz z hy) (by omega)
  have e0 : D.tup [.int 1, .int 1] = num 1 := rfl
  simp only [t_law_between, evSs, s_ret, e_call, evEs, e_var, slot0, slotS, Res.bind_ok, settle_v, opt_some, e_tup, e_int, e0, c1.fill, c1.run, c3.fill, c3.run, c4.fill, c4.run, c5.fill, c5.run]
  rfl
theorem between_spec {i a b c' e d : Nat} (h : C.fns[i]? = some (F_between a b c' e)) (ha : SWidth C d a) (hb : SReqSh C d b) (hc : SReqCh C d c') (he : SBetw C d e) : ∀ w k s p q, 1 ≤ w → w ≤ 8 → Sz k s → 0 ≤ s → s ≤ 1 → Ch w k p → Ch w k q → k ≤ 100 → Sp C (d + 1) i [.int w, num s, row p, row q] (.v (row (betw s p q))) := by
  intro w k s p q h1 h2 hs s0 s1 hp hq hk
  refine Sp.by h rfl fun n S => ?_
  show evSs C (evCall C (n + d)) (t_between a b c' e) [some (.int w), some (num s), some (row p), some (row q)] S = _
  have c1 := ha w h1 h2
  have c2 := hb k s hs hk s0 s1
  have c3 := hc w k p hp hk h2
  have c4 := hc w k q hq hk h2
  have c5 := he k s p q hs hp.sz hq.sz hk
  simp [t_between, c1.fill, c1.run, c2.fill, c2.run, c3.fill, c3.run, c4.fill, c4.run, c5.fill, c5.run]
theorem mean_spec {i a b c' e d : Nat} (h : C.fns[i]? = some (F_mean a b c' e)) (ha : SWidth C d a) (hb : SReqCh C d b) (hc : SReqLn C d c') (he : SDot C d e) : ∀ w k p q, 1 ≤ w → w ≤ 8 → Ch w k p → Ln w k q → k ≤ 100 → Sp C (d + 1) i [.int w, row p, row q] (.v (num (dotL p q))) := by
  intro w k p q h1 h2 hp hq hk
  refine Sp.by h rfl fun n S => ?_
  show evSs C (evCall C (n + d)) (t_mean a b c' e) [some (.int w), some (row p), some (row q)] S = _
  have c1 := ha w h1 h2
  have c2 := hb w k p hp hk h2
  have c3 := hc w k q hq hk
  have c5 := he k k p q hp.sz hq.sz (by
    rw [hp.len]
    have := Nat.mul_le_mul (show w + 1 ≤ 9 by omega) (show k + k + 1 ≤ 201 by omega)
    omega)
  simp [t_mean, c1.fill, c1.run, c2.fill, c2.run, c3.fill, c3.run, c5.fill, c5.run]
end
end Q
end
section
-- M15
set_option Elab.async false
set_option linter.all false
set_option maxRecDepth 100000
namespace Q
open PySem (Str Operator CmpOp BoolOp PyData Paired)
section
variable {C : Q.Ctx} {call : Nat → List D → Store → Res R} {S : Store}
def spotsL (r : List Rat) : List Int := (r.zipIdx.filter fun p => decide (0 < p.1.num)).map fun p => (p.2 : Int)
theorem evI_enum {e : E} {ρ : Env} {r : List Rat} (h : evE C call e ρ S = .ok (.v (row r)) S) : evI C call (.enum e) ρ S = .ok (.its (r.zipIdx.map fun p => .tup [.int p.2, num p.1])) S := by
  rw [evI, h]
  show Res.ok (Iter.its ((r.map num).zipIdx.map fun p => D.tup [.int p.2, p.1])) S = _
  rw [List.zipIdx_map, List.map_map]
  rfl
theorem spots_lc {i j : Nat} {e : E} {ρ : Env} {r : List Rat} {k : Nat} (h : evE C call e ρ S = .ok (.v (row r)) S) (hi : i < ρ.length) (hj : j < ρ.length) (hij : i ≠ j) :
    evE C call (.lc (.var i) (.tp (.cons (.nm i) (.cons (.nm j) .nil))) (.enum e) (.so (.cmp .Gt (.idx (.var j) (.int 0)) (.int 0))) k) ρ S = .ok (.t ((spotsL r).map .int)) S := by
  have key := lc_filter (C := C) (call := call) (S := S) (elt := .var i) (c := .so (.cmp .Gt (.idx (.var j) (.int 0)) (.int 0))) (tg := .tp (.cons (.nm i) (.cons (.nm j) .nil))) (it := .enum e) (k := k) (ρ := ρ) (l := r.zipIdx) (f := fun p => .tup [.int p.2, num p.1])
    (p := fun p => decide (0 < p.1.num)) (g := fun p => .int p.2) (evI_enum h) fun y hy => by
    have hw : (Q.wipe ρ (T.tp (.cons (.nm i) (.cons (.nm j) .nil))).slots).length = ρ.length := by
      simp [T.slots, Ts.slots, Q.wipe]
    refine ⟨_, asT_two, ?_, fun _ => ?_⟩
    · have e1 : (((Q.wipe ρ (T.tp (.cons (.nm i) (.cons (.nm j) .nil))).slots).set i (some (.int y.2))).set j (some (num y.1)))[j]? = some (some (num y.1)) := by
        rw [List.getElem?_set_self]
        rw [List.length_set, hw]
        exact hj
      simp [e1]
    · have e1 : (((Q.wipe ρ (T.tp (.cons (.nm i) (.cons (.nm j) .nil))).slots).set i (some (.int y.2))).set j (some (num y.1)))[i]? = some (some (.int y.2)) := by
        rw [List.getElem?_set_ne (Ne.symm hij), List.getElem?_set_self]
        rw [hw]
        exact hi
      simp [e1]
  rw [key]
  unfold spotsL
  rw [List.map_map]
  rfl
theorem spots_spec {i a b d : Nat} (h : C.fns[i]? = some (F_spots a b)) (ha : SWidth C d a) (hb : SReqCh C d b) : ∀ w k p, 1 ≤ w → w ≤ 8 → Ch w k p → k ≤ 100 → Sp C (d + 1) i [.int w, row p] (.v (intsD (spotsL p))) := by
  intro w k p h1 h2 hp hk
  refine Sp.by h rfl fun n S => ?_
  show evSs C (evCall C (n + d)) (t_spots a b) [some (.int w), some (row p), none, none] S = _
  have c1 := ha w h1 h2
  have c2 := hb w k p hp hk h2
  have key := spots_lc (C := C) (call := evCall C (n + d)) (S := S) (i := 2) (j := 3) (e := .var 1) (ρ := [some (.int w), some (row p), none, none]) (r := p) (k := 0) (by simp) (by simp) (by simp) (by decide)
  simp only [t_spots, evSs, s_ret, s_expr, e_call, evEs, e_var, slot0, slotS, Res.bind_ok, settle_v, opt_some, c1.fill, c1.run, c2.fill, c2.run, e_bi1, key, tuple_t]
  rfl
/-- a table of chances -/
structure ChT (h w k : Nat) (t : List (List Rat)) : Prop where
  len : t.length = h
  ch : ∀ r ∈ t, Ch w k r
theorem ChT.tb {h w k : Nat} {t : List (List Rat)} (x : ChT h w k t) : Tb w k t := ⟨fun r hr => (x.ch r hr).len, fun r hr => (x.ch r hr).sz⟩
theorem isTb_ch {h w k : Nat} {t : List (List Rat)} (x : ChT h w k t) : isTb h w (tabD t) = true := by
  show (decide ((t.map row).length = h) && (t.map row).all (isCh w)) = true
  rw [List.length_map, x.len, List.all_map]
  simp only [decide_true, Bool.true_and]
  exact List.all_eq_true.mpr fun r hr => isCh_ch (x.ch r hr)
theorem vt_tab {h w k n : Nat} {t : List (List Rat)} (x : ChT h w k t) (e : k ≤ 100) : Vt 100 n (tabD t) := .tup fun d hd => by
  obtain ⟨r, hr, rfl⟩ := List.mem_map.mp hd
  exact va_row (x.ch r hr).sz e
def SReqT (C : Q.Ctx) (d i : Nat) : Prop := ∀ h w k t, ChT h w k t → k ≤ 100 → w ≤ 8 → Sp C d i [.int h, .int w, tabD t] (.v .non)
theorem reqtab_spec {i a d : Nat} (h : C.fns[i]? = some (F_require_chance_table a)) (ha : SIsTb C d a) : SReqT C (d + 1) i := by
  intro g w k t x hk hw
  refine Sp.by0 h rfl fun n S => ⟨[some (.int g), some (.int w), some (tabD t)], ?_⟩
  show evSs C (evCall C (n + d)) (t_require_chance_table a) [some (.int g), some (.int w), some (tabD t)] S = _
  have ra := ha.run n S g w (tabD t) ⟨vt_tab x hk, le_8 hw⟩
  rw [isTb_ch x] at ra
  simp [t_require_chance_table, ha.fill, ra]
def SBy (C : Q.Ctx) (d i : Nat) : Prop := ∀ k l w p t, t ≠ [] → (∀ x ∈ p, Sz k x) → Tb w l t → w ≤ 1000 → (p.length + 1) * (k + l + 1) + 1 ≤ 4000 → Sp C d i [tabD t, row p] (.v (row (ledT w p t)))
theorem len_row (S : Store) (r : List Rat) : evBi1 .len S (.v (row r)) = .ok (.v (.int r.length)) S := by
  unfold row
  rw [len_tup, List.length_map]
theorem ix_tab0 (S : Store) (r : List Rat) (t : List (List Rat)) : getItem S (.v (tabD (r :: t))) (.v (.int 0)) = some (row r) := by
  show getItem S (.v (.tup (row r :: t.map row))) _ = _
  rw [ix_tup, at0]
theorem by_spec {i a d : Nat} (h : C.fns[i]? = some (F_behind_by a)) (ha : SLed C d a) : SBy C (d + 1) i := by
  intro k l w p t ht hp hb hw hk
  refine Sp.by h rfl fun n S => ?_
  show evSs C (evCall C (n + d)) (t_behind_by a) [some (tabD t), some (row p)] S = _
  cases t with
  | nil => exact absurd rfl ht
  | cons r t =>
    have e1 : r.length = w := hb.len r List.mem_cons_self
    have c := ha k l w p (r :: t) hp hb hw hk
    simp [t_behind_by, ix_tab0, len_row, e1, c.fill, c.run]
theorem behind_spec {i a b c' e d : Nat} (h : C.fns[i]? = some (F_behind_table a b c' e)) (ha : SWidth C d a) (hb : SReqT C d b) (hc : SReqCh C d c') (he : SBy C d e) : ∀ g w k t p, 1 ≤ g → g ≤ 8 → 1 ≤ w → w ≤ 8 → ChT g w k t → Ch g k p → k ≤ 100 → Sp C (d + 1) i [.int g, .int w, tabD t, row p] (.v (row (ledT w p t))) := by
  intro g w k t p g1 g2 h1 h2 ht hp hk
  refine Sp.by h rfl fun n S => ?_
  show evSs C (evCall C (n + d)) (t_behind_table a b c' e) [some (.int g), some (.int w), some (tabD t), some (row p)] S = _
  have c1 := ha w h1 h2
  have c0 := ha g g1 g2
  have c2 := hb g w k t ht hk h2
  have c3 := hc g k p hp hk g2
  have c5 := he k k w p t (fun z => by have := ht.len; rw [z] at this; simp at this; omega) hp.sz ht.tb (by omega) (by
    rw [hp.len]
    have := Nat.mul_le_mul (show g + 1 ≤ 9 by omega) (show k + k + 1 ≤ 201 by omega)
    omega)
  simp [t_behind_table, c0.fill, c0.run, c1.fill, c1.run, c2.fill, c2.run, c3.fill, c3.run, c5.fill, c5.run]
theorem tbehind_spec {i a b e d : Nat} (h : C.fns[i]? = some (F_table_behind a b e)) (ha : SWidth C d a) (hb : SReqT C d b) (he : SBy C d e) : ∀ g m w k s t, 1 ≤ g → g ≤ 8 → 1 ≤ m → m ≤ 8 → 1 ≤ w → w ≤ 8 → ChT g m k s → ChT m w k t → k ≤ 100 → Sp C (d + 1) i [.int g, .int m, .int w, tabD s, tabD t] (.v (tabD (s.map fun p => ledT w p t))) := by
  intro g m w k s t g1 g2 m1 m2 h1 h2 hs ht hk
  refine Sp.by h rfl fun n S => ?_
  show evSs C (evCall C (n + d)) (t_table_behind a b e) [some (.int g), some (.int m), some (.int w), some (tabD s), some (tabD t), none] S = _
  have c1 := ha w h1 h2
  have c0 := ha g g1 g2
  have cm := ha m m1 m2
  have c2 := hb g m k s hs hk m2
  have c3 := hb m w k t ht hk h2
  have key := lc_map (C := C) (call := evCall C (n + d)) (S := S) (elt := .call e (.cons (.var 4) (.cons (.var 5) .nil))) (tg := .nm 5) (it := .seq (.var 3)) (k := 0) (ρ := [some (.int g), some (.int m), some (.int w), some (tabD s), some (tabD t), none]) (l := s) (f := row)
    (g := fun p => row (ledT w p t)) (evI_row (by simp [tabD])) fun p hp => by
    refine ⟨_, asT_nm, ?_⟩
    show evE C (evCall C (n + d)) _ [some (.int g), some (.int m), some (.int w), some (tabD s), some (tabD t), some (row p)] S = _
    have c5 := he k k w p t (fun z => by have := ht.len; rw [z] at this; simp at this; omega) (hs.ch p hp).sz ht.tb (by omega) (by
      rw [(hs.ch p hp).len]
      have := Nat.mul_le_mul (show m + 1 ≤ 9 by omega) (show k + k + 1 ≤ 201 by omega)
      omega)
    simp [c5.fill, c5.run]
  simp [t_table_behind, c0.fill, c0.run, c1.fill, c1.run, cm.fill, cm.run, c2.fill, c2.run, c3.fill, c3.run, key]
  simp [tabD]
theorem wby_spec {i a b e g d : Nat} (h : C.fns[i]? = some (F_weighed_by a b e g)) (ha : SMulR C d a) (hb : SDiv C d b) (he : SSum C d e) (hg : C.glb[g]? = some (num 1)) : ∀ w k p, w ≤ 8 → Ln w k p → sumL p ≠ 0 → k ≤ 100 → Sp C (d + 1) i [row p] (.v (row (p.map ((1 / sumL p) * ·)))) := by
  intro w k p hw hp hs hk
  refine Sp.by h rfl fun n S => ?_
  show evSs C (evCall C (n + d)) (t_weighed_by a b e g) [some (row p)] S = _
  have hm : (p.length + 1) * (k + 1) + 1 ≤ 4000 := by
    rw [hp.len]
    have := Nat.mul_le_mul (show w + 1 ≤ 9 by omega) (show k + 1 ≤ 101 by omega)
    omega
  have sz := sz_sum p hp.sz
  have hm2 : p.length * (k + 1) ≤ 8 * 101 := Nat.mul_le_mul (by rw [hp.len]; exact hw) (by omega)
  have c1 := he k p hp.sz hm
  have c2 := hb 1 _ 1 (sumL p) sz_one sz hs (by omega)
  have z : Sz (1 + (p.length * (k + 1) + 1)) (1 / sumL p) := by
    rw [quot_div]
    exact sz_div (sz_one.n.mul sz.d) (sz_one.d.mul sz.n) (Int.mul_ne_zero (by decide) (num_ne hs))
  have c3 := ha _ k (1 / sumL p) p z hp.sz (by omega)
  simp only [t_weighed_by, evSs, s_ret, e_call, evEs, e_var, slot0, slotS, Res.bind_ok, settle_v, opt_some, e_glb, hg, c1.fill, c1.run, c2.fill, c2.run, c3.fill, c3.run]
theorem isMix_ln {w k : Nat} {r : List Rat} (h : Ln w k r) (z : ∀ x ∈ r, 0 ≤ x) : isMix w (row r) = true := by
  unfold isMix
  rw [isRow_ln h, rowOf_row, all_pos z]
  rfl
theorem weighed_spec {i a b e d : Nat} (h : C.fns[i]? = some (F_weighed a b e)) (ha : SWidth C d a) (hb : SJw C d b (fun _ S x => Va 100 S.length x) isMix) (he : ∀ w k p, w ≤ 8 → Ln w k p → sumL p ≠ 0 → k ≤ 100 → Sp C d e [row p] (.v (row (p.map ((1 / sumL p) * ·))))) :
    ∀ w k p, 1 ≤ w → w ≤ 8 → Ln w k p → (∀ x ∈ p, 0 ≤ x) → sumL p ≠ 0 → k ≤ 100 → Sp C (d + 1) i [.int w, row p] (.v (row (p.map ((1 / sumL p) * ·)))) := by
  intro w k p h1 h2 hp h0 hs hk
  refine Sp.by h rfl fun n S => ?_
  show evSs C (evCall C (n + d)) (t_weighed a b e) [some (.int w), some (row p), none] S = _
  have c1 := ha w h1 h2
  have ra := hb.run n S w (row p) (va_row hp.sz hk)
  rw [isMix_ln hp h0] at ra
  have key := lc_map (C := C) (call := evCall C (n + d)) (S := S) (elt := .cmp .Eq (.idx (.var 2) (.int 0)) (.int 0)) (tg := .nm 2) (it := .seq (.var 1)) (k := 0) (ρ := [some (.int w), some (row p), none]) (l := p) (f := num)
    (g := fun x => .bl (decide (x.num = 0))) (evI_row (by simp [row])) fun y hy => by
    refine ⟨_, asT_nm, ?_⟩
    show evE C (evCall C (n + d)) _ [some (.int w), some (row p), some (num y)] S = _
    simp only [e_cmp, e_idx, e_var, slot0, slotS, Res.bind_ok, e_int, ix_num0, opt_some, eq_int]
  have al := all_t (S := S) (fun x : Rat => decide (x.num = 0)) p
  have nz : (p.all fun x => decide (x.num = 0)) = false := by
    rw [Bool.eq_false_iff]
    intro z
    rw [List.all_eq_true] at z
    apply hs
    have : ∀ (l : List Rat) (b : Rat), (∀ x ∈ l, x = 0) → l.foldl (· + ·) b = b := by
      intro l
      induction l with
      | nil => intro b _; rfl
      | cons x r ih =>
        intro b hl
        rw [List.foldl_cons, hl x List.mem_cons_self, Rat.add_zero]
        exact ih b fun y hy => hl y (List.mem_cons_of_mem _ hy)
    exact this p 0 fun x hx => Rat.num_eq_zero.mp (of_decide_eq_true (z x hx))
  rw [nz] at al
  have c2 := he w k p h2 hp hs hk
  simp only [t_weighed, evSs, s_expr, s_ife, s_ret, e_call, e_not, e_bi1, evEs, e_var, slot0, slotS, Res.bind_ok, settle_v, opt_some, c1.fill, c1.run, hb.fill, ra, truth_bl, Bool.not_true, Bool.false_eq_true, if_false, key, al, c2.fill, c2.run]
end
end Q
end
section
-- M16
set_option Elab.async false
set_option linter.all false
set_option maxRecDepth 100000
namespace Q
open PySem (Str Operator CmpOp BoolOp PyData Paired)
/-! ### dice -/
/-- the dice at n: at most c were rolled otherwise -/
def Dice (S : Store) (n c : Nat) : Prop := ∃ a s t : Int, S[n]? = some (.lst [.int a, .int s, .int t]) ∧ 0 ≤ a ∧ 0 ≤ s ∧ 0 ≤ t ∧ t ≤ c ∧ Lt 2000 a ∧ Lt 200 s
/-- all but the dice at n stays; more may be there -/
structure Ext (n : Nat) (S S' : Store) : Prop where
  len : S.length ≤ S'.length
  at_ : ∀ i, i < S.length → i ≠ n → S'[i]? = S[i]?
theorem Ext.refl {n : Nat} {S : Store} : Ext n S S := ⟨Nat.le_refl _, fun _ _ _ => rfl⟩
theorem Ext.trans {n : Nat} {S S1 S2 : Store} (a : Ext n S S1) (b : Ext n S1 S2) : Ext n S S2 := ⟨Nat.le_trans a.len b.len, fun i hi hn => by rw [b.at_ i (Nat.lt_of_lt_of_le hi a.len) hn, a.at_ i hi hn]⟩
theorem Dice.lt {S : Store} {n c : Nat} (h : Dice S n c) : n < S.length := by
  obtain ⟨a, s, t, e, _⟩ := h
  exact (List.getElem?_eq_some_iff.mp e).1
theorem Dice.mono {S : Store} {n c c' : Nat} (h : Dice S n c) (e : c ≤ c') : Dice S n c' := by
  obtain ⟨a, s, t, h1, h2, h3, h4, h5, h6, h7⟩ := h
  exact ⟨a, s, t, h1, h2, h3, h4, by omega, h6, h7⟩
/-- a value that is no place: what is dropped behind a call -/
theorem fin_val {n : Nat} {d : D} {S : Store} (h : ∀ m, d ≠ .ref m) : ∃ S', fin n (.v d) S = .ok (.v d) S' ∧ (S' = S ∨ (n < S.length ∧ S' = S.take n)) := by
  unfold fin
  split
  · exact ⟨S, rfl, .inl rfl⟩
  · rename_i hn
    have hn : n < S.length := by
      have : ¬ S.length ≤ n := fun z => hn (Nat.ble_eq.mpr z)
      omega
    split
    · cases d with
      | ref m => exact absurd rfl (h m)
      | _ =>
        dsimp only
        split
        · exact ⟨_, rfl, .inr ⟨hn, rfl⟩⟩
        · exact ⟨_, rfl, .inl rfl⟩
    · exact ⟨S, rfl, .inl rfl⟩
section
variable {C : Q.Ctx} {call : Nat → List D → Store → Res R} {S : Store}
/-- a call that rolls, and hands back a value -/
theorem ev_dice {m i n c : Nat} {F : Fn} {ds : List D} {S S' : Store} {d : D} (h : C.fns[i]? = some F) (hl : ds.length = F.np) (hd : ∀ m, d ≠ .ref m) (hD : n < S.length) (e : evSs C (evCall C m) F.body (start F ds) S = .ok (.rt (.v d)) S') (x : Ext n S S') (dc : Dice S' n c) :
    ∃ S2, evCall C (m + 1) i ds S = .ok (.v d) S2 ∧ Ext n S S2 ∧ Dice S2 n c := by
  rw [ev_call h hl, e]
  obtain ⟨S2, e2, z⟩ := fin_val (n := S.length) (d := d) (S := S') hd
  refine ⟨S2, e2, ?_⟩
  rcases z with z | ⟨hlt, z⟩
  · subst z; exact ⟨x, dc⟩
  · subst z
    refine ⟨⟨by rw [List.length_take]; omega, fun i hi hn => by rw [List.getElem?_take_of_lt hi]; exact x.at_ i hi hn⟩, ?_⟩
    obtain ⟨a, s, t, h1, h2⟩ := dc
    exact ⟨a, s, t, by rw [List.getElem?_take_of_lt hD]; exact h1, h2⟩
theorem ix_ref (S : Store) (n : Nat) (ds : List D) (i : Int) (h : S[n]? = some (.lst ds)) : getItem S (.v (.ref n)) (.v (.int i)) = atD ds i := by
  unfold getItem seqOf
  dsimp only
  rw [h]
theorem at2 (d e f : D) (ds : List D) : atD (d :: e :: f :: ds) 2 = some f := by
  show (L2.ixN (ds.length + 1 + 1 + 1) 2).bind _ = _
  unfold L2.ixN
  have h : (2 : Int) < (ds.length : Int) + 1 + 1 + 1 := by omega
  simp [h]
theorem lt_ediv {k : Nat} {a m : Int} (h : Lt k a) : Lt k (a / m) := by
  unfold Lt at *
  exact Nat.lt_of_le_of_lt (Int.natAbs_ediv_le_natAbs _ _) h
theorem divm {a m : Int} (S : Store) (h1 : 0 < m) (h2 : m < 1073741824) : evBi2 .divmod S (.v (.int a)) (.v (.int m)) = .ok (.v (.tup [.int (a / m), .int (a % m)])) S := by
  show (if (decide (0 < m) && decide (m < 1073741824)) = true then _ else _) = _
  rw [decide_eq_true h1, decide_eq_true h2]
  rfl
theorem asT_sb {n : Nat} {j k : Nat} {i : Int} {d : D} {ρ : Env} {ds : List D} {e : E} (h1 : ρ[j]? = some (some (.ref n))) (h2 : evE C call e ρ S = .ok (.v (.int i)) S) (h3 : S[n]? = some (.lst ds)) (h4 : ixD ds.length i = some k) : asT C call (.sb (.var j) e) d ρ S = .ok ρ (S.set n (.lst (ds.set k d))) := by
  rw [asT, e_var, h1]
  show (evE C call e ρ S).bind _ = _
  rw [h2]
  show (match S[n]? with | some (.lst ds) => Q.opt (ixD ds.length i) fun j => Res.ok ρ (S.set n (.lst (ds.set j d))) | _ => .bad) = _
  rw [h3]
  dsimp only
  rw [h4]
  rfl
theorem int_int (S : Store) (i : Int) : evBi1 .int S (.v (.int i)) = .ok (.v (.int i)) S := rfl
/-- a roll: below the total -/
def SRoll (C : Q.Ctx) (d i : Nat) : Prop := (∀ a b, Q.fill C i [a, b] = some [a, b]) ∧ ∀ n S (m : Int) j c, Dice S j c → 0 < m → m < 1000 → c ≤ 1000000 → ∃ r S', evCall C (n + d) i [.ref j, .int m] S = .ok (.v (.int r)) S' ∧ 0 ≤ r ∧ r < m ∧ Ext j S S' ∧ Dice S' j (c + 1)
theorem set_at {S : Store} {n : Nat} {x : Cell} (h : n < S.length) : (S.set n x)[n]? = some x := List.getElem?_set_self h
theorem Ext.set {S : Store} {n : Nat} {x : Cell} : Ext n S (S.set n x) := ⟨by rw [List.length_set]; exact Nat.le_refl _, fun i hi hn => by rw [List.getElem?_set_ne (Ne.symm hn)]⟩
theorem roll_spec {i : Nat} (h : C.fns[i]? = some F_law_roll) : SRoll C 1 i := by
  refine ⟨fun a b => fill_of h rfl, fun n S m j c hD h1 h2 hc => ?_⟩
  have hj := hD.lt
  obtain ⟨a, s, t, e, ha, hs, ht, htc, la, ls⟩ := hD
  by_cases hp : 0 < a
  · have w1 : asT C (evCall C n) (.tp (.cons (.sb (.var 0) (.int 0)) (.cons (.nm 4) .nil))) (.tup [.int (a / m), .int (a % m)]) [some (.ref j), some (.int m), none, none, none] S = .ok [some (.ref j), some (.int m), none, none, some (.int (a % m))] (S.set j (.lst [.int (a / m), .int s, .int t])) := by
      have := asT_sb (C := C) (call := evCall C n) (S := S) (n := j) (j := 0) (k := 0) (i := 0) (d := .int (a / m)) (ρ := [some (.ref j), some (.int m), none, none, none]) (e := .int 0) rfl (by simp) e rfl
      rw [asT]
      simp [-as_nm, -as_tp, -as_sb, asT_nm, tupOf, uncons, Ts.len, this]
    refine ⟨a % m, ?_⟩
    obtain ⟨S2, e2, x2, d2⟩ := ev_dice (m := n) (n := j) (c := c + 1) (S' := S.set j (.lst [.int (a / m), .int s, .int t])) (d := .int (a % m)) (ds := [.ref j, .int m]) h rfl (fun _ z => nomatch z) hj (by
      show evSs C (evCall C n) t_law_roll [some (.ref j), some (.int m), none, none, none] S = _
      simp [-as_nm, -as_tp, -as_sb, t_law_roll, ix_ref S j _ _ e, hp, divm S h1 (by omega : m < 1073741824), calm, w1, int_int]) .set ⟨a / m, s, t, set_at hj, Int.ediv_nonneg ha (by omega), hs, ht, by omega, lt_ediv la, ls⟩
    exact ⟨S2, e2, Int.emod_nonneg _ (by omega), Int.emod_lt_of_pos _ h1, x2, d2⟩
  · have h0 : a = 0 := by omega
    subst h0
    have w1 : asT C (evCall C n) (.sb (.var 0) (.int 2)) (.int (t + 1)) [some (.ref j), some (.int m), none, none, none] S = .ok [some (.ref j), some (.int m), none, none, none] (S.set j (.lst [.int 0, .int s, .int (t + 1)])) := 
      asT_sb (C := C) (call := evCall C n) (S := S) (n := j) (j := 0) (k := 2) (i := 2) (d := .int (t + 1)) (ρ := [some (.ref j), some (.int m), none, none, none]) (e := .int 2) rfl (by simp) e rfl
    have e2 : (S.set j (.lst [.int 0, .int s, .int (t + 1)]))[j]? = some (.lst [.int 0, .int s, .int (t + 1)]) := set_at hj
    generalize hS1 : S.set j (.lst [.int 0, .int s, .int (t + 1)]) = S1 at *
    have lt1 : Lt 30 (t + 1) := by unfold Lt; omega
    have m1 := mul_int S1 67867967 (t + 1) (mulOk_of (k := 30) (l := 30) (by unfold Lt; decide) lt1 (by decide))
    have d1 := mod_int S1 (s + 67867967 * (t + 1)) 2305843009213693613 (by decide)
    generalize hone : (s + 67867967 * (t + 1)).fmod 2305843009213693613 = one at *
    have one0 : 0 ≤ one := by rw [← hone]; exact Int.fmod_nonneg_of_pos _ (by decide)
    have one1 : one < 2305843009213693613 := by rw [← hone]; exact Int.fmod_lt_of_pos _ (by decide)
    have lone : Lt 62 one := by unfold Lt; omega
    have m2 := mul_int S1 one one (mulOk_of lone lone (by decide))
    have m3 := mul_int S1 211 (t + 1) (mulOk_of (k := 30) (l := 30) (by unfold Lt; decide) lt1 (by decide))
    have d2 := mod_int S1 (one * one + 211 * (t + 1)) 2305843009213693487 (by decide)
    generalize htwo : (one * one + 211 * (t + 1)).fmod 2305843009213693487 = two at *
    have two0 : 0 ≤ two := by rw [← htwo]; exact Int.fmod_nonneg_of_pos _ (by decide)
    have two1 : two < 2305843009213693487 := by rw [← htwo]; exact Int.fmod_lt_of_pos _ (by decide)
    have ltwo : Lt 62 two := by unfold Lt; omega
    have m4 := mul_int S1 two 49979693 (mulOk_of (l := 30) ltwo (by unfold Lt; decide) (by decide))
    have d3 := div_int S1 (two * 49979693 + one) 70001 (divOk_of (k := 30) (by decide) (by unfold Lt; decide) (by decide))
    have d4 := mod_int S1 ((two * 49979693 + one).fdiv 70001) m (by omega)
    refine ⟨((two * 49979693 + one).fdiv 70001).fmod m, ?_⟩
    obtain ⟨S2, e3, x2, dd⟩ := ev_dice (m := n) (n := j) (c := c + 1) (S' := S1) (d := .int (((two * 49979693 + one).fdiv 70001).fmod m)) (ds := [.ref j, .int m]) h rfl (fun _ z => nomatch z) hj (by
      show evSs C (evCall C n) t_law_roll [some (.ref j), some (.int m), none, none, none] S = _
      simp [-as_nm, -as_tp, -as_sb, asT_nm, t_law_roll, ix_ref S j _ _ e, ix_ref S1 j _ _ e2, at2, calm, w1, int_int, m1, d1, m2, m3, d2, m4, d3, d4]) (by rw [← hS1]; exact .set) ⟨0, s, t + 1, e2, by decide, hs, by omega, by omega, la, ls⟩
    exact ⟨S2, e3, Int.fmod_nonneg_of_pos _ h1, Int.fmod_lt_of_pos _ h1, x2, dd⟩
end
end Q
end
section
-- M17
set_option Elab.async false
set_option linter.all false
set_option maxRecDepth 100000
namespace Q
open PySem (Str Operator CmpOp BoolOp PyData Paired)
section
variable {C : Q.Ctx} {call : Nat → List D → Store → Res R} {S : Store}
/-! ### draws -/
/-- a comprehension whose items change the store -/
theorem lc_state {α : Type} {f : α → D} {elt : E} {tg : T} {it : It} {k : Nat} {ρ : Env} {l : List α} {S0 : Store} (P : D → Prop) (R : Nat → Store → Prop) (hI : evI C call it ρ S0 = .ok (.its (l.map f)) S) (h0 : R 0 S)
    (h : ∀ a ∈ l, ∀ i S, i < l.length → R i S → ∃ ρ' x S', asT C call tg (f a) (Q.wipe ρ tg.slots) S = .ok ρ' S ∧ evE C call elt ρ' S = .ok (.v x) S' ∧ P x ∧ R (i + 1) S') :
    ∃ xs S', evE C call (.lc elt tg it .no k) ρ S0 = .ok (.t xs) S' ∧ xs.length = l.length ∧ (∀ x ∈ xs, P x) ∧ R l.length S' := by
  have key : ∀ (m : List α) (i : Nat) (acc : List D) (S : Store), (∀ a ∈ m, a ∈ l) → i + m.length = l.length → R i S → ∃ xs S', overL (stepOf C call elt tg .no ρ) (m.map f) acc S = .ok (acc ++ xs) S' ∧ xs.length = m.length ∧ (∀ x ∈ xs, P x) ∧ R l.length S' := by
    intro m
    induction m with
    | nil =>
      intro i acc S _ hi r
      refine ⟨[], S, ?_, rfl, fun x hx => by simp at hx, ?_⟩
      · rw [List.map_nil, overL, List.append_nil]
      · simp at hi
        rw [← hi]
        exact r
    | cons a rest ih =>
      intro i acc S hm hi r
      rw [List.length_cons] at hi
      obtain ⟨ρ', x, S', h1, h2, h3, h4⟩ := h a (hm a List.mem_cons_self) i S (by omega) r
      obtain ⟨xs, S2, e, l2, p2, r2⟩ := ih (i + 1) (acc ++ [x]) S' (fun b hb => hm b (List.mem_cons_of_mem _ hb)) (by omega) h4
      refine ⟨x :: xs, S2, ?_, by rw [List.length_cons, List.length_cons, l2], fun y hy => ?_, r2⟩
      · have s1 : stepOf C call elt tg .no ρ (f a) S = .ok (some x) S' := by
          unfold stepOf
          simp only [h1, Res.bind_ok, evC, if_true, h2, settle_v]
        rw [List.map_cons, overL, s1]
        dsimp only [Res.bind_ok]
        rw [e, List.append_assoc]
        rfl
      · rcases List.mem_cons.mp hy with z | z
        · rw [z]; exact h3
        · exact p2 y z
  obtain ⟨xs, S', e, h1, h2, h3⟩ := key l 0 [] S (fun _ z => z) (by omega) h0
  refine ⟨xs, S', ?_, h1, h2, h3⟩
  rw [evE, hI]
  show (calm (overL (stepOf C call elt tg .no ρ) (l.map f) [] S)).bind _ = _
  rw [e]
  rfl
/-- a loop over a list of the store that stays -/
theorem forV_typed {turn : D → Env → Store → Res Fl} {n : Nat} {ds : List D} (hS : S[n]? = some (.lst ds)) (R : List D → Env → Prop) (h : ∀ done d rest ρ, ds = done ++ d :: rest → R done ρ → ∃ ρ', turn d ρ S = .ok (.nx ρ') S ∧ R (done ++ [d]) ρ') :
    ∀ (f i : Nat) (ρ : Env), i + f = ds.length → R (ds.take i) ρ → ∃ ρ', forV turn n f i ρ S = .ok (.nx ρ') S ∧ R ds ρ'
  | 0, i, ρ, e, r => by
    refine ⟨ρ, ?_, by rw [List.take_of_length_le (by omega)] at r; exact r⟩
    rw [forV, hS]
    dsimp only
    rw [List.getElem?_eq_none (by omega)]
  | f + 1, i, ρ, e, r => by
    have hi : i < ds.length := by omega
    have ed : ds = ds.take i ++ ds[i] :: ds.drop (i + 1) := by
      rw [← List.drop_eq_getElem_cons hi, List.take_append_drop]
    obtain ⟨ρ', e1, r1⟩ := h (ds.take i) ds[i] (ds.drop (i + 1)) ρ ed r
    obtain ⟨ρ2, e2, r2⟩ := forV_typed hS R h f (i + 1) ρ' (by omega) (by rw [List.take_add_one, List.getElem?_eq_getElem hi]; exact r1)
    refine ⟨ρ2, ?_, r2⟩
    rw [forV, hS]
    dsimp only
    rw [List.getElem?_eq_getElem hi]
    dsimp only
    rw [e1]
    exact e2
theorem overV_map {step : D → Store → Res (Option D)} {n : Nat} {ds : List D} {g : D → D} (hS : S[n]? = some (.lst ds)) (h : ∀ d ∈ ds, step d S = .ok (some (g d)) S) : ∀ (f i : Nat) (acc : List D), i + f = ds.length → overV step n f i acc S = .ok (acc ++ (ds.drop i).map g) S
  | 0, i, acc, e => by
    rw [overV, hS]
    dsimp only
    rw [List.getElem?_eq_none (by omega)]
    dsimp only
    rw [List.drop_of_length_le (by omega)]
    simp
  | f + 1, i, acc, e => by
    have hi : i < ds.length := by omega
    rw [overV, hS]
    dsimp only
    rw [List.getElem?_eq_getElem hi]
    dsimp only
    rw [h _ (List.getElem_mem hi)]
    dsimp only [Res.bind_ok]
    rw [overV_map hS h f (i + 1) _ (by omega), List.drop_eq_getElem_cons hi, List.map_cons, List.append_assoc]
    rfl
theorem evI_live {e : E} {ρ : Env} {n : Nat} {ds : List D} (h : evE C call e ρ S = .ok (.v (.ref n)) S) (hS : S[n]? = some (.lst ds)) : evI C call (.seq e) ρ S = .ok (.live n) S := by
  rw [evI, h]
  simp only [Res.bind_ok, iterOf, hS, opt_some]
theorem lc_live {elt : E} {tg : T} {e : E} {k n : Nat} {ρ : Env} {ds : List D} {g : D → D} (he : evE C call e ρ S = .ok (.v (.ref n)) S) (hS : S[n]? = some (.lst ds))
    (h : ∀ d ∈ ds, ∃ ρ', asT C call tg d (Q.wipe ρ tg.slots) S = .ok ρ' S ∧ evE C call elt ρ' S = .ok (.v (g d)) S) : evE C call (.lc elt tg (.seq e) .no k) ρ S = .ok (.t (ds.map g)) S := by
  have key := overV_map (S := S) (n := n) (ds := ds) (g := g) (step := fun d S => (asT C call tg d (Q.wipe ρ tg.slots) S).bind fun ρ S => (evC C call .no ρ S).bind fun k S =>
        if k then (evE C call elt ρ S).bind fun y S => Q.settle y S fun d S => .ok (some d) S else .ok none S) hS (fun d hd => by
    obtain ⟨ρ', h1, h2⟩ := h d hd
    simp only [h1, Res.bind_ok, evC, if_true, h2, settle_v]) ds.length 0 [] (by omega)
  rw [evE, evI_live he hS]
  simp only [Res.bind_ok, over, hS, key, calm_ok, List.nil_append, List.drop_zero]
theorem s_live {t : T} {e : E} {b : Ss} {ρ : Env} {n : Nat} {ds : List D} (he : evE C call e ρ S = .ok (.v (.ref n)) S) (hS : S[n]? = some (.lst ds)) : evS C call (.for t (.seq e) b) ρ S = forV (fun d ρ S => (calm (asT C call t d ρ S)).bind fun ρ S => evSs C call b ρ S) n ds.length 0 ρ S := by
  rw [evS, evI_live he hS]
  simp only [Res.bind_ok, forI, hS]
/-- drawing: a value that P holds of, by at most K rolls -/
structure SDraw (C : Q.Ctx) (d i K : Nat) (args : List D) (P : D → Prop) : Prop where
  fill : ∀ a, Q.fill C i (a :: args) = some (a :: args)
  run : ∀ n S j c, Dice S j c → c + K ≤ 1000000 → ∃ x S', evCall C (n + d) i (.ref j :: args) S = .ok (.v x) S' ∧ P x ∧ Ext j S S' ∧ Dice S' j (c + K)
theorem Ext.push {n : Nat} {S : Store} {x : Cell} : Ext n S (S ++ [x]) := ⟨by simp, fun i hi _ => by rw [List.getElem?_append_left hi]⟩
theorem Dice.push {n c : Nat} {S : Store} {x : Cell} (h : Dice S n c) : Dice (S ++ [x]) n c := by
  have hl := h.lt
  obtain ⟨a, s, t, h1, h2⟩ := h
  exact ⟨a, s, t, by rw [List.getElem?_append_left hl]; exact h1, h2⟩
theorem len_ref (S : Store) (n : Nat) (ds : List D) (h : S[n]? = some (.lst ds)) : evBi1 .len S (.v (.ref n)) = .ok (.v (.int ds.length)) S := by
  unfold evBi1 seqOf
  dsimp only
  rw [h]
theorem atD_nat {ds : List D} {r : Nat} (h : r < ds.length) : atD ds (r : Int) = some ds[r] := by
  show (L2.ixN ds.length (r : Int)).bind _ = _
  unfold L2.ixN
  have h1 : (0 : Int) ≤ (r : Int) := by omega
  have h2 : (r : Int) < (ds.length : Int) := by omega
  simp [h2, List.getElem?_eq_getElem h]
theorem pick_spec {i a d : Nat} (h : C.fns[i]? = some (F_law_pick a)) (ha : SRoll C d a) : (∀ x y, Q.fill C i [x, y] = some [x, y]) ∧ ∀ n S j c m ds, Dice S j c → c + 1 ≤ 1000000 → S[m]? = some (.lst ds) → m ≠ j → ds ≠ [] → ds.length < 1000 → (∀ x ∈ ds, ∀ k, x ≠ .ref k) →
    ∃ x S', x ∈ ds ∧ evCall C (n + (d + 1)) i [.ref j, .ref m] S = .ok (.v x) S' ∧ Ext j S S' ∧ Dice S' j (c + 1) := by
  refine ⟨fun x y => fill_of h rfl, fun n S j c m ds hD hc hm hne h0 hl hr => ?_⟩
  have hj := hD.lt
  have hm' := (List.getElem?_eq_some_iff.mp hm).1
  obtain ⟨r, S1, e1, r0, r1, x1, d1⟩ := ha.2 n S ds.length j c hD (by
    cases ds with
    | nil => exact absurd rfl h0
    | cons _ _ => rw [List.length_cons]; omega) (by omega) (by omega)
  obtain ⟨k, rfl⟩ : ∃ k : Nat, r = k := ⟨r.toNat, by omega⟩
  have hk : k < ds.length := by omega
  have e2 : S1[m]? = some (.lst ds) := by rw [x1.at_ m hm' hne]; exact hm
  obtain ⟨S2, e3, x3, d3⟩ := ev_dice (m := n + d) (n := j) (c := c + 1) (S' := S1) (d := ds[k]) (ds := [.ref j, .ref m]) h rfl (hr _ (List.getElem_mem hk)) hj (by
    show evSs C (evCall C (n + d)) (t_law_pick a) [some (.ref j), some (.ref m)] S = _
    simp [t_law_pick, len_ref S m ds hm, ha.1, e1, ix_ref S1 m ds _ e2, atD_nat hk]) x1 d1
  exact ⟨ds[k], S2, List.getElem_mem hk, e3, x3, d3⟩
end
end Q
end
section
-- M18
set_option Elab.async false
set_option linter.all false
set_option maxRecDepth 100000
namespace Q
open PySem (Str Operator CmpOp BoolOp PyData Paired)
section
variable {C : Q.Ctx} {call : Nat → List D → Store → Res R} {S : Store}
theorem srnum_spec (B : Big C) {i f r p d : Nat} (h : C.fns[i]? = some (F_law_sr_number f r p)) (hf : C.fns[f]? = some fFr) (hr : SRoll C (d + 1) r) (hp : C.fns[p]? = some (F_law_pick r)) : SDraw C (d + 3) i 2 [] (fun x => ∃ q, x = num q ∧ Sz 4 q) := by
  refine ⟨fun a => fill_of h rfl, fun n S j c hD hc => ?_⟩
  have hj := hD.lt
  obtain ⟨pf, pr⟩ := pick_spec hp hr
  obtain ⟨a, S1, e1, a0, a1, x1, d1⟩ := hr.2 (n + 1) S 13 j c hD (by decide) (by decide) (by omega)
  rw [show n + 1 + (d + 1) = n + (d + 2) by omega] at e1
  have hm : (S1 ++ [Cell.lst [.int 1, .int 1, .int 2, .int 3]])[S1.length]? = some (.lst [.int 1, .int 1, .int 2, .int 3]) := by simp
  obtain ⟨x, S2, hx, e2, x2, d2⟩ := pr n (S1 ++ [Cell.lst [.int 1, .int 1, .int 2, .int 3]]) j (c + 1) S1.length _ d1.push (by omega) hm (by have := d1.lt; omega) (by simp) (by simp) (by
    intro x hx k z
    subst z
    simp at hx)
  rw [show n + (d + 1 + 1) = n + (d + 2) by omega] at e2
  obtain ⟨b, rfl, b1, b2⟩ : ∃ b : Int, x = .int b ∧ 1 ≤ b ∧ b ≤ 3 := by
    simp at hx
    rcases hx with z | z | z
    · exact ⟨1, z, by decide, by decide⟩
    · exact ⟨2, z, by decide, by decide⟩
    · exact ⟨3, z, by decide, by decide⟩
  have la : Lt 4 (a - 6) := by unfold Lt; omega
  have lb : Lt 4 b := by unfold Lt; omega
  have e3 : evCall C (n + (d + 2)) f [.int (a - 6), .int b] S2 = _ := fr_spec (n := n + (d + 1)) (S := S2) B hf (a - 6) b (by omega) (la.mono (by decide)) (lb.mono (by decide))
  have ff := fill_of (C := C) (ds := [.int (a - 6), .int b]) hf rfl
  obtain ⟨S3, e4, x4, d4⟩ := ev_dice (m := n + (d + 2)) (n := j) (c := c + 2) (S' := S2) (d := num (Rat.divInt (a - 6) b)) (ds := [.ref j]) h rfl (fun _ z => nomatch z) hj (by
    show evSs C (evCall C (n + (d + 2))) (t_law_sr_number f r p) [some (.ref j)] S = _
    simp [t_law_sr_number, hr.1, e1, pf, e2, ff, e3]) (x1.trans (Ext.push.trans x2)) d2
  exact ⟨_, S3, e4, ⟨_, rfl, sz_div la lb (by omega)⟩, x4, d4⟩
theorem nums_of {k : Nat} : ∀ {xs : List D}, (∀ x ∈ xs, ∃ q, x = num q ∧ Sz k q) → ∃ r : List Rat, xs = r.map num ∧ ∀ q ∈ r, Sz k q
  | [], _ => ⟨[], rfl, fun q h => by simp at h⟩
  | x :: xs, h => by
    obtain ⟨q, e, z⟩ := h x List.mem_cons_self
    obtain ⟨r, e2, z2⟩ := nums_of fun y hy => h y (List.mem_cons_of_mem _ hy)
    refine ⟨q :: r, by rw [e, e2, List.map_cons], fun y hy => ?_⟩
    rcases List.mem_cons.mp hy with z3 | z3
    · rw [z3]; exact z
    · exact z2 y z3
theorem srrow_spec {i a d : Nat} (h : C.fns[i]? = some (F_law_sr_row a)) (ha : SDraw C d a 2 [] (fun x => ∃ q, x = num q ∧ Sz 4 q)) (w : Nat) (hw : w ≤ 8) : SDraw C (d + 1) i 16 [.int w] (fun x => ∃ r, x = row r ∧ Ln w 4 r) := by
  refine ⟨fun a => fill_of h rfl, fun n S j c hD hc => ?_⟩
  have hj := hD.lt
  obtain ⟨xs, S1, e1, l1, p1, x1, d1⟩ := lc_state (C := C) (call := evCall C (n + d)) (S := S) (S0 := S) (elt := .call a (.cons (.var 0) .nil)) (tg := .nm 2) (it := .rng1 (.var 1)) (k := 0) (ρ := [some (.ref j), some (.int w), none]) (l := List.range w) (f := fun j : Nat => D.int j)
    (fun x => ∃ q, x = num q ∧ Sz 4 q) (fun i S1 => Ext j S S1 ∧ Dice S1 j (c + 2 * i)) (evI_rng1 (by simp) hw) ⟨.refl, hD⟩ fun y hy i S1 hi ⟨x1, d1⟩ => by
    rw [List.length_range] at hi
    obtain ⟨x, S2, e2, p2, x2, d2⟩ := ha.run n S1 j (c + 2 * i) d1 (by omega)
    refine ⟨_, x, S2, asT_nm, ?_, p2, x1.trans x2, d2.mono (by omega)⟩
    show evE C (evCall C (n + d)) _ [some (.ref j), some (.int w), some (.int y)] S1 = _
    simp [ha.fill, e2]
  rw [List.length_range] at l1 d1
  obtain ⟨r, rfl, hr⟩ := nums_of p1
  obtain ⟨S2, e2, x2, d2⟩ := ev_dice (m := n + d) (n := j) (c := c + 16) (S' := S1) (d := row r) (ds := [.ref j, .int w]) h rfl (fun _ z => nomatch z) hj (by
    show evSs C (evCall C (n + d)) (t_law_sr_row a) [some (.ref j), some (.int w), none] S = _
    simp [t_law_sr_row, e1]
    rfl) x1 (d1.mono (by omega))
  exact ⟨_, S2, e2, ⟨r, rfl, by rw [List.length_map] at l1; exact l1, hr⟩, x2, d2⟩
/-! ### drawn chances -/
def sumI (l : List Int) : Int := l.foldl (· + ·) 0
theorem sumI_snoc (l : List Int) (x : Int) : sumI (l ++ [x]) = sumI l + x := by
  unfold sumI
  rw [List.foldl_append]
  rfl
theorem add_same {a b t : Int} (h : t ≠ 0) : Rat.divInt a t + Rat.divInt b t = Rat.divInt (a + b) t := by
  rw [Rat.divInt_add_divInt _ _ h h, Rat.divInt_eq_divInt_iff (Int.mul_ne_zero h h) h, Int.add_mul, Int.add_mul, Int.mul_assoc, Int.mul_assoc]
theorem sum_same {t : Int} (h : t ≠ 0) (l : List Int) : sumL (l.map fun x => Rat.divInt x t) = Rat.divInt (sumI l) t := by
  suffices ∀ (l : List Int) (b : Int), (l.map fun x => Rat.divInt x t).foldl (· + ·) (Rat.divInt b t) = Rat.divInt (l.foldl (· + ·) b) t by
    have e := this l 0
    rw [Rat.zero_divInt] at e
    exact e
  intro l
  induction l with
  | nil => intro b; rfl
  | cons x r ih => intro b; rw [List.map_cons, List.foldl_cons, add_same h, List.foldl_cons]; exact ih _
theorem div_nonneg {a t : Int} (h : 0 ≤ a) (g : 0 < t) : 0 ≤ Rat.divInt a t := by
  rw [← Rat.num_nonneg, Rat.num_divInt, Int.sign_eq_one_of_pos g, Int.one_mul]
  exact Int.ediv_nonneg h (Int.natCast_nonneg _)
theorem sumI_le {b : Int} : ∀ (l : List Int), (∀ x ∈ l, 0 ≤ x ∧ x ≤ b) → 0 ≤ sumI l ∧ sumI l ≤ l.length * b := fun l h => by
  suffices ∀ (l : List Int) (s : Int), (∀ x ∈ l, 0 ≤ x ∧ x ≤ b) → s ≤ l.foldl (· + ·) s ∧ l.foldl (· + ·) s ≤ s + l.length * b by
    have := this l 0 h
    unfold sumI
    omega
  intro l
  induction l with
  | nil => intro s _; simp
  | cons x r ih =>
    intro s h
    have h1 := h x List.mem_cons_self
    have := ih (s + x) fun y hy => h y (List.mem_cons_of_mem _ hy)
    rw [List.foldl_cons, List.length_cons]
    have e : ((r.length + 1 : Nat) : Int) * b = r.length * b + b := by rw [Int.natCast_add, Int.add_mul]; simp
    omega
theorem le_sumI : ∀ (l : List Int) {x : Int}, (∀ y ∈ l, 0 ≤ y) → x ∈ l → x ≤ sumI l := fun l x h hx => by
  suffices ∀ (l : List Int) (s : Int), 0 ≤ s → (∀ y ∈ l, 0 ≤ y) → (x ∈ l → x ≤ l.foldl (· + ·) s) ∧ s ≤ l.foldl (· + ·) s from (this l 0 (by decide) h).1 hx
  intro l
  induction l with
  | nil => intro s _ _; exact ⟨fun z => by simp at z, Int.le_refl _⟩
  | cons a r ih =>
    intro s hs h
    have h1 := h a List.mem_cons_self
    have := ih (s + a) (by omega) fun y hy => h y (List.mem_cons_of_mem _ hy)
    rw [List.foldl_cons]
    refine ⟨fun z => ?_, by omega⟩
    rcases List.mem_cons.mp z with z | z
    · omega
    · exact this.1 z
theorem drawn_ch {w : Nat} {l : List Int} (hl : l.length = w) (hw : w ≤ 8) (h : ∀ x ∈ l, 0 ≤ x ∧ x ≤ 4) (h1 : 0 < sumI l) : Ch w 6 (l.map fun x => Rat.divInt x (sumI l)) := by
  have b := sumI_le l h
  have hs : sumI l ≤ 32 := by
    have : (l.length : Int) * 4 ≤ 32 := by omega
    omega
  have ne : sumI l ≠ 0 := by omega
  refine ⟨by rw [List.length_map]; exact hl, fun x hx => ?_, fun x hx => ?_, by rw [sum_same ne, Rat.divInt_self' ne]⟩
  · obtain ⟨y, hy, rfl⟩ := List.mem_map.mp hx
    have := h y hy
    exact sz_div (by unfold Lt; omega) (by unfold Lt; omega) ne
  · obtain ⟨y, hy, rfl⟩ := List.mem_map.mp hx
    exact div_nonneg (h y hy).1 h1
end
end Q
end
section
-- M19
set_option Elab.async false
set_option linter.all false
set_option maxRecDepth 100000
namespace Q
open PySem (Str Operator CmpOp BoolOp PyData Paired)
section
variable {C : Q.Ctx} {call : Nat → List D → Store → Res R} {S : Store}
theorem ints_of {b : Int} : ∀ {xs : List D}, (∀ x ∈ xs, ∃ q, x = .int q ∧ 0 ≤ q ∧ q < b) → ∃ r : List Int, xs = r.map D.int ∧ ∀ q ∈ r, 0 ≤ q ∧ q < b
  | [], _ => ⟨[], rfl, fun q h => by simp at h⟩
  | x :: xs, h => by
    obtain ⟨q, e, z⟩ := h x List.mem_cons_self
    obtain ⟨r, e2, z2⟩ := ints_of fun y hy => h y (List.mem_cons_of_mem _ hy)
    refine ⟨q :: r, by rw [e, e2, List.map_cons], fun y hy => ?_⟩
    rcases List.mem_cons.mp hy with z3 | z3
    · rw [z3]; exact z
    · exact z2 y z3
theorem Dice.ext {n c m : Nat} {S S' : Store} {x : Cell} (h : Dice S n c) (hm : m ≠ n) : Dice (S.set m x) n c := by
  obtain ⟨a, s, t, h1, h2⟩ := h
  exact ⟨a, s, t, by rw [List.getElem?_set_ne hm]; exact h1, h2⟩
theorem ixD_nat {n r : Nat} (h : r < n) : ixD n (r : Int) = some r := by
  unfold ixD L2.ixN
  have h1 : (0 : Int) ≤ (r : Int) := by omega
  have h2 : (r : Int) < (n : Int) := by omega
  simp [h2]
theorem srch_spec (B : Big C) {i r f d : Nat} (h : C.fns[i]? = some (F_law_sr_chances r f)) (hr : SRoll C (d + 1) r) (hf : C.fns[f]? = some fFr) (w : Nat) (h1 : 1 ≤ w) (hw : w ≤ 8) : SDraw C (d + 2) i 9 [.int w] (fun x => ∃ r, x = row r ∧ Ch w 6 r) := by
  refine ⟨fun a => fill_of h rfl, fun n S j c hD hc => ?_⟩
  have hj := hD.lt
  obtain ⟨xs, S1, e1, l1, p1, x1, d1⟩ := lc_state (C := C) (call := evCall C (n + (d + 1))) (S := S) (S0 := S) (elt := .call r (.cons (.var 0) (.cons (.int 4) .nil))) (tg := .nm 6) (it := .rng1 (.var 1)) (k := 0) (ρ := [some (.ref j), some (.int w), none, none, none, none, none]) (l := List.range w) (f := fun j : Nat => D.int j)
    (fun x => ∃ q, x = .int q ∧ 0 ≤ q ∧ q < 4) (fun i S1 => Ext j S S1 ∧ Dice S1 j (c + i)) (evI_rng1 (by simp) hw) ⟨.refl, hD⟩ fun y hy i S1 hi ⟨x1, d1⟩ => by
    rw [List.length_range] at hi
    obtain ⟨q, S2, e2, q0, q1, x2, d2⟩ := hr.2 n S1 4 j (c + i) d1 (by decide) (by decide) (by omega)
    refine ⟨_, .int q, S2, asT_nm, ?_, ⟨q, rfl, q0, q1⟩, x1.trans x2, d2⟩
    show evE C (evCall C (n + (d + 1))) _ [some (.ref j), some (.int w), none, none, none, none, some (.int y)] S1 = _
    simp [hr.1, e2]
  rw [List.length_range] at l1 d1
  obtain ⟨is, rfl, his⟩ := ints_of p1
  rw [List.length_map] at l1
  -- the list is laid
  have hj1 := d1.lt
  generalize hm : S1.length = m at *
  have hS1 : (S1 ++ [Cell.lst (is.map .int)])[m]? = some (.lst (is.map .int)) := by rw [← hm]; simp
  obtain ⟨q, S2, e2, q0, q1, x2, d2⟩ := hr.2 n (S1 ++ [Cell.lst (is.map .int)]) w j (c + w) d1.push (by omega) (by omega) (by omega)
  obtain ⟨k, rfl⟩ : ∃ k : Nat, q = k := ⟨q.toNat, by omega⟩
  have hk : k < is.length := by omega
  have hmj : m ≠ j := by omega
  have hS2 : S2[m]? = some (.lst (is.map .int)) := by rw [x2.at_ m (by rw [List.length_append, hm]; simp) hmj]; exact hS1
  have hm2 := (List.getElem?_eq_some_iff.mp hS2).1
  generalize hS3 : S2.set m (.lst ((is.set k (is[k] + 1)).map .int)) = S3
  have eS3 : S3[m]? = some (.lst ((is.set k (is[k] + 1)).map .int)) := by rw [← hS3]; exact set_at hm2
  have his' : ∀ x ∈ is.set k (is[k] + 1), 0 ≤ x ∧ x ≤ 4 := fun x hx => by
    rcases List.mem_or_eq_of_mem_set hx with z | z
    · have := his x z; omega
    · have := his is[k] (List.getElem_mem hk); omega
  have hk' : is[k] + 1 ∈ is.set k (is[k] + 1) := by
    rw [List.mem_iff_getElem]
    exact ⟨k, by rw [List.length_set]; exact hk, by simp⟩
  have hpos : 0 < sumI (is.set k (is[k] + 1)) := by
    have a1 := le_sumI _ (fun y hy => (his' y hy).1) hk'
    have a2 := his is[k] (List.getElem_mem hk)
    omega
  have hlen : (is.set k (is[k] + 1)).length = w := by rw [List.length_set]; exact l1
  have w3 : asT C (evCall C (n + (d + 1))) (.sb (.var 2) (.var 4)) (.int (is[k] + 1)) [some (.ref j), some (.int w), some (.ref m), none, some (.int k), some (.int 0), none] S2 = .ok [some (.ref j), some (.int w), some (.ref m), none, some (.int k), some (.int 0), none] S3 := by
    have := asT_sb (C := C) (call := evCall C (n + (d + 1))) (S := S2) (n := m) (j := 2) (k := k) (i := k) (d := .int (is[k] + 1)) (ρ := [some (.ref j), some (.int w), some (.ref m), none, some (.int k), some (.int 0), none]) (e := .var 4) rfl (by simp) hS2 (ixD_nat (by rw [List.length_map]; exact hk))
    rw [this, ← hS3, List.map_set]
  generalize his2 : is.set k (is[k] + 1) = js at *
  have at_k : atD (is.map D.int) (k : Int) = some (.int is[k]) := by
    rw [atD_nat (by rw [List.length_map]; exact hk), List.getElem_map]
  -- the total
  have w4 : ∃ y, evS C (evCall C (n + (d + 1))) (.for (.nm 3) (.seq (.var 2)) (.cons (.asg (.nm 5) (.bin .Add (.var 5) (.var 3))) .nil)) [some (.ref j), some (.int w), some (.ref m), none, some (.int k), some (.int 0), none] S3 = .ok (.nx [some (.ref j), some (.int w), some (.ref m), y, some (.int k), some (.int (sumI js)), none]) S3 := by
    rw [s_live (n := m) (ds := js.map .int) (by simp) eS3]
    obtain ⟨ρ', e5, y, r, e6, e7⟩ := forV_typed (S := S3) (n := m) (ds := js.map .int) (turn := fun d' ρ S => (calm (asT C (evCall C (n + (d + 1))) (.nm 3) d' ρ S)).bind fun ρ S => evSs C (evCall C (n + (d + 1))) (.cons (.asg (.nm 5) (.bin .Add (.var 5) (.var 3))) .nil) ρ S) eS3
      (fun done ρ => ∃ y r, done = r.map D.int ∧ ρ = [some (.ref j), some (.int w), some (.ref m), y, some (.int k), some (.int (sumI r)), none]) (fun done b rest ρ el ⟨y, r, e6, e7⟩ => by
        subst e6 e7
        obtain ⟨z, hz⟩ : ∃ z, b = .int z := by
          have : b ∈ js.map D.int := by rw [el]; simp
          obtain ⟨z, _, e⟩ := List.mem_map.mp this
          exact ⟨z, e.symm⟩
        subst hz
        refine ⟨[some (.ref j), some (.int w), some (.ref m), some (.int z), some (.int k), some (.int (sumI (r ++ [z]))), none], ?_, some (.int z), r ++ [z], by rw [List.map_append]; rfl, rfl⟩
        simp [calm, sumI_snoc]) (js.map D.int).length 0 [some (.ref j), some (.int w), some (.ref m), none, some (.int k), some (.int 0), none] (by omega) ⟨none, [], by simp, rfl⟩
    have e8 : js = r := by
      have inj : ∀ {a b : List Int}, a.map D.int = b.map D.int → a = b := by
        intro a
        induction a with
        | nil => intro b z; cases b with | nil => rfl | cons _ _ => cases z
        | cons x a ih =>
          intro b z
          cases b with
          | nil => cases z
          | cons y b =>
            rw [List.map_cons, List.map_cons] at z
            injection z with z1 z2
            injection z1 with z1
            rw [z1, ih z2]
      exact inj e6
    subst e8
    rw [e7] at e5
    exact ⟨y, e5⟩
  obtain ⟨y, w4⟩ := w4
  have w5 := lc_live (C := C) (call := evCall C (n + (d + 1))) (S := S3) (elt := .call f (.cons (.var 3) (.cons (.var 5) .nil))) (tg := .nm 3) (e := .var 2) (k := 1) (n := m) (ρ := [some (.ref j), some (.int w), some (.ref m), y, some (.int k), some (.int (sumI js)), none]) (ds := js.map .int)
    (g := fun x => match x with | .int a => num (Rat.divInt a (sumI js)) | _ => .non) (by simp) eS3 fun x hx => by
    obtain ⟨a, ha, rfl⟩ := List.mem_map.mp hx
    refine ⟨_, asT_nm, ?_⟩
    show evE C (evCall C (n + (d + 1))) _ [some (.ref j), some (.int w), some (.ref m), some (.int a), some (.int k), some (.int (sumI js)), none] S3 = _
    have b := sumI_le js his'
    have b2 := his' a ha
    have ff := fill_of (C := C) (ds := [.int a, .int (sumI js)]) hf rfl
    have e3 : evCall C (n + (d + 1)) f [.int a, .int (sumI js)] S3 = _ := fr_spec (n := n + d) (S := S3) B hf a (sumI js) (by omega) ((show Lt 6 a by unfold Lt; omega).mono (by decide)) ((show Lt 6 (sumI js) by
      have : (js.length : Int) * 4 ≤ 32 := by omega
      unfold Lt
      omega).mono (by decide))
    simp [ff, e3]
  rw [List.map_map] at w5
  have x3 : Ext j S S3 := by
    have xa := x1.trans (Ext.push (n := j) (S := S1) (x := .lst (is.map .int)))
    have xb := xa.trans x2
    refine ⟨by rw [← hS3, List.length_set]; exact xb.len, fun i hi hn => ?_⟩
    have : i ≠ m := by
      have := x1.len
      omega
    rw [← hS3, List.getElem?_set_ne (Ne.symm this)]
    exact xb.at_ i hi hn
  have d3 : Dice S3 j (c + 9) := by
    rw [← hS3]
    exact (d2.ext (S' := S2) hmj).mono (by omega)
  obtain ⟨S4, e9, x9, d9⟩ := ev_dice (m := n + (d + 1)) (n := j) (c := c + 9) (S' := S3) (d := row (js.map fun x => Rat.divInt x (sumI js))) (ds := [.ref j, .int w]) h rfl (fun _ z => nomatch z) hj (by
    show evSs C (evCall C (n + (d + 1))) (t_law_sr_chances r f) [some (.ref j), some (.int w), none, none, none, none, none] S = _
    simp [-as_nm, -as_tp, -as_sb, -as_nil, -as_cons, asT_nm, asT_two, t_law_sr_chances, e1, calm, hm, hr.1, e2, ix_ref S2 m _ _ hS2, at_k, w3, w4, w5]
    simp [row]) x3 d3
  exact ⟨_, S4, e9, ⟨_, rfl, drawn_ch hlen hw his' hpos⟩, x9, d9⟩
end
end Q
end
section
-- M20
set_option Elab.async false
set_option linter.all false
set_option maxRecDepth 100000
namespace Q
open PySem (Str Operator CmpOp BoolOp PyData Paired)
section
variable {C : Q.Ctx} {call : Nat → List D → Store → Res R} {S : Store}
/-! ### values near chances -/
theorem Pu.up {k : Nat} : ∀ {n m : Nat} {d : D}, Pu k n d → n ≤ m → Pu k m d := fun {n m d} h e => by
  induction h generalizing m with
  | non => exact .non
  | bl b => exact .bl b
  | int h => exact .int h
  | str h => exact .str h
  | tup h ih =>
    cases m with
    | zero => omega
    | succ m => exact .tup fun d hd => ih d hd (by omega)
theorem Va.up {k n m : Nat} {d : D} (h : Va k n d) (e : n ≤ m) : Va k m d := by
  cases h with
  | pu h => exact .pu h
  | ref h => exact .ref (by omega)
theorem Pu.tups {k n : Nat} {ds : List D} (h : Pu k (n + 1) (.tup ds)) : ∀ d ∈ ds, Pu k n d := by
  cases h with
  | tup h => exact h
theorem slice_mem {ds : List D} {lo hi : Option Int} {d : D} (h : d ∈ slice ds lo hi) : d ∈ ds := by
  unfold slice at h
  exact List.mem_of_mem_drop (List.mem_of_mem_take h)
theorem slice_len {ds : List D} {lo hi : Option Int} : (slice ds lo hi).length ≤ ds.length := by
  unfold slice
  rw [List.length_take, List.length_drop]
  omega
theorem slc_tup (S : Store) (ds : List D) (lo hi : Option Int) : getSlice S (.v (.tup ds)) lo hi = .ok (.v (.tup (slice ds lo hi))) S := rfl
theorem add_tup (S : Store) (x y : List D) (h : x.length + y.length ≤ szl) : evBin .Add S (.v (.tup x)) (.v (.tup y)) = .ok (.v (.tup (x ++ y))) S := by
  show (if Nat.ble (x.length + y.length) szl = true then _ else _) = _
  rw [if_pos (Nat.ble_eq.mpr h)]
theorem rev_tup (S : Store) (ds : List D) : getRev S (.v (.tup ds)) = .ok (.v (.tup ds.reverse)) S := rfl
theorem add_refs (S : Store) (n : Nat) (x y : List D) (hn : S[n]? = some (.lst x)) (h : x.length + y.length ≤ szl) : evBin .Add S (.v (.ref n)) (.t y) = .ok (.t (x ++ y)) S := by
  unfold evBin
  dsimp only [seqOf]
  rw [hn]
  dsimp only
  rw [if_pos (Nat.ble_eq.mpr h)]
theorem e_append {i : Nat} {e : E} {ρ : Env} {n : Nat} {ds ds' : List D} {d : D} {S S' : Store} (h1 : ρ[i]? = some (some (.ref n))) (h2 : S[n]? = some (.lst ds)) (h3 : evE C call e ρ S = .ok (.v d) S') (h4 : S'[n]? = some (.lst ds')) (h5 : ds'.length < szl) : evE C call (.met .append (.var i) e) ρ S = .ok (.v .non) (S'.set n (.lst (ds' ++ [d]))) := by
  rw [evE, e_var, h1]
  simp only [Res.bind_ok, h2, h3, settle_v, evMet, h4]
  rw [if_pos (Nat.blt_eq.mpr h5)]
theorem fin_t {n : Nat} {ds : List D} {S : Store} : ∃ S', fin n (.t ds) S = .ok (.t ds) S' ∧ (S' = S ∨ (n < S.length ∧ S' = S.take n ∧ ds.all (lowD n 66) = true)) := by
  unfold fin
  split
  · exact ⟨S, rfl, .inl rfl⟩
  · rename_i hn
    have hn : n < S.length := by
      have : ¬ S.length ≤ n := fun z => hn (Nat.ble_eq.mpr z)
      omega
    split
    · dsimp only
      split
      · rename_i hl
        exact ⟨_, rfl, .inr ⟨hn, rfl, hl⟩⟩
      · exact ⟨_, rfl, .inl rfl⟩
    · exact ⟨S, rfl, .inl rfl⟩
theorem va_low {k n m : Nat} {d : D} (h : Va k m d) (l : lowD n 66 d = true) : Va k n d := by
  cases h with
  | pu h => exact .pu h
  | @ref i h => exact .ref (Nat.blt_eq.mp l)
/-- a call that rolls, and hands back a new list -/
theorem ev_diceT {m i n c : Nat} {F : Fn} {ds : List D} {S S' : Store} {xs : List D} (h : C.fns[i]? = some F) (hl : ds.length = F.np) (hD : n < S.length) (e : evSs C (evCall C m) F.body (start F ds) S = .ok (.rt (.t xs)) S') (x : Ext n S S') (dc : Dice S' n c) (hv : ∀ d ∈ xs, Va 100 S'.length d) :
    ∃ S2, evCall C (m + 1) i ds S = .ok (.t xs) S2 ∧ Ext n S S2 ∧ Dice S2 n c ∧ ∀ d ∈ xs, Va 100 S2.length d := by
  rw [ev_call h hl, e]
  obtain ⟨S2, e2, z⟩ := fin_t (n := S.length) (ds := xs) (S := S')
  refine ⟨S2, e2, ?_⟩
  rcases z with z | ⟨hlt, z, l⟩
  · subst z; exact ⟨x, dc, hv⟩
  · subst z
    refine ⟨⟨by rw [List.length_take]; omega, fun i hi hn => by rw [List.getElem?_take_of_lt hi]; exact x.at_ i hi hn⟩, ?_, fun d hd => ?_⟩
    · obtain ⟨a, s, t, h1, h2⟩ := dc
      exact ⟨a, s, t, by rw [List.getElem?_take_of_lt hD]; exact h1, h2⟩
    · rw [List.length_take, Nat.min_eq_left (by omega)]
      exact va_low (hv d hd) (List.all_eq_true.mp l d hd)
theorem szl_eq : szl = 16777216 := rfl
theorem pu_put {p : List Rat} {k a : Nat} {lo hi lo' hi' : Option Int} {x : D} (hp : ∀ y ∈ p, Sz 100 y) (hx : Pu 100 50 x) : Pu 100 60 (.tup (slice (p.map num) lo hi ++ [x] ++ slice (p.map num) lo' hi')) := .tup fun d hd => by
  have hs : ∀ d lo hi, d ∈ slice (p.map num) lo hi → Pu 100 59 d := fun d lo hi h => by
    obtain ⟨y, hy, rfl⟩ := List.mem_map.mp (slice_mem h)
    exact (pu_num (n := 0) (hp y hy)).up (by decide)
  rcases List.mem_append.mp hd with z | z
  · rcases List.mem_append.mp z with z | z
    · exact hs d _ _ z
    · rw [List.mem_singleton] at z
      rw [z]
      exact hx.up (by decide)
  · exact hs d _ _ z
/-- the loop that puts odd values in -/
theorem near_loop {n d j w k : Nat} {p : List Rat} {odds : List D} {S3 : Store} {mf : Nat} {ds0 : List D} {o : Option D} (hmf : S3[mf]? = some (.lst ds0)) (hp : ∀ y ∈ p, Sz 100 y) (hw : p.length ≤ 8) (hds : ∀ d ∈ ds0, Va 100 S3.length d) (h0 : ds0.length ≤ 100) (ho : odds.length ≤ 100) (hodd : ∀ x ∈ odds, Pu 100 50 x) {t : Option D} {one : Option D} {e1 e2 : Option D} (hk : k < 8) {call : Nat → List D → Store → Res R} :
    ∃ ds' o', forL (fun d' ρ S => (calm (asT C call (.nm 5) d' ρ S)).bind fun ρ S => evSs C call (.cons (.expr (.met .append (.var 3) (.bin .Add (.bin .Add (.slc (.var 1) .no (.so (.var 2))) (.tup (.cons (.var 5) .nil))) (.slc (.var 1) (.so (.bin .Add (.var 2) (.int 1))) .no)))) .nil) ρ S) odds [some (.ref j), some (row p), some (.int k), some (.ref mf), one, o, e1, e2] S3 =
      .ok (.nx [some (.ref j), some (row p), some (.int k), some (.ref mf), one, o', e1, e2]) (S3.set mf (.lst ds')) ∧ (∀ d ∈ ds', Va 100 S3.length d) ∧ ds'.length ≤ 200 := by
  have hm := (List.getElem?_eq_some_iff.mp hmf).1
  obtain ⟨ρ', S', e, ds', o', h1, h2, h3, h4⟩ := forL_typed (S := S3) (f := fun x : D => x) (turn := fun d' ρ S => (calm (asT C call (.nm 5) d' ρ S)).bind fun ρ S => evSs C call (.cons (.expr (.met .append (.var 3) (.bin .Add (.bin .Add (.slc (.var 1) .no (.so (.var 2))) (.tup (.cons (.var 5) .nil))) (.slc (.var 1) (.so (.bin .Add (.var 2) (.int 1))) .no)))) .nil) ρ S) (l := odds) (ρ := [some (.ref j), some (row p), some (.int k), some (.ref mf), one, o, e1, e2])
    (fun done ρ S' => ∃ ds' o', ρ = [some (.ref j), some (row p), some (.int k), some (.ref mf), one, o', e1, e2] ∧ S' = S3.set mf (.lst ds') ∧ (∀ d ∈ ds', Va 100 S3.length d) ∧ ds'.length ≤ 100 + done.length) (fun done b rest ρ S' el ⟨ds', o', a1, a2, a3, a4⟩ => by
      subst a1 a2
      have hb : b ∈ odds := by rw [el]; simp
      have hl : done.length + 1 ≤ odds.length := by rw [el, List.length_append, List.length_cons]; omega
      have hS : (S3.set mf (.lst ds'))[mf]? = some (.lst ds') := set_at hm
      refine ⟨[some (.ref j), some (row p), some (.int k), some (.ref mf), one, some b, e1, e2], S3.set mf (.lst (ds' ++ [.tup (slice (p.map num) none (some (k : Int)) ++ [b] ++ slice (p.map num) (some ((k : Int) + 1)) none)])), .inl ?_, ds' ++ [.tup (slice (p.map num) none (some (k : Int)) ++ [b] ++ slice (p.map num) (some ((k : Int) + 1)) none)], some b, rfl, rfl, fun d hd => ?_, ?_⟩
      · have ev : evE C call (.bin .Add (.bin .Add (.slc (.var 1) .no (.so (.var 2))) (.tup (.cons (.var 5) .nil))) (.slc (.var 1) (.so (.bin .Add (.var 2) (.int 1))) .no)) [some (.ref j), some (row p), some (.int k), some (.ref mf), one, some b, e1, e2] (S3.set mf (.lst ds')) = .ok (.v (.tup (slice (p.map num) none (some (k : Int)) ++ [b] ++ slice (p.map num) (some ((k : Int) + 1)) none))) (S3.set mf (.lst ds')) := by
          have l1 := slice_len (ds := p.map num) (lo := none) (hi := some (k : Int))
          have l2 := slice_len (ds := p.map num) (lo := some ((k : Int) + 1)) (hi := none)
          rw [List.length_map] at l1 l2
          have z1 := add_tup (S3.set mf (.lst ds')) (slice (p.map num) none (some (k : Int))) [b] (by rw [szl_eq, List.length_singleton]; omega)
          have z2 := add_tup (S3.set mf (.lst ds')) (slice (p.map num) none (some (k : Int)) ++ [b]) (slice (p.map num) (some ((k : Int) + 1)) none) (by rw [szl_eq, List.length_append, List.length_singleton]; omega)
          simp only [e_bin, e_slc, e_var, e_int, e_tup, evEs, evB, slot0, slotS, Res.bind_ok, settle_v, row, slc_tup, add_int, z1, z2]
        have ap := e_append (C := C) (call := call) (i := 3) (ρ := [some (.ref j), some (row p), some (.int k), some (.ref mf), one, some b, e1, e2]) rfl hS ev hS (by rw [szl_eq]; omega)
        rw [List.set_set] at ap
        show (calm (asT C call (.nm 5) b _ _)).bind _ = _
        rw [asT_nm]
        show evSs C call _ [some (.ref j), some (row p), some (.int k), some (.ref mf), one, some b, e1, e2] _ = _
        simp only [evSs, s_expr, ap, Res.bind_ok]
      · rcases List.mem_append.mp hd with z | z
        · exact a3 d z
        · rw [List.mem_singleton] at z
          rw [z]
          exact .pu (pu_put (k := 0) (a := 0) hp (hodd b hb))
      · rw [List.length_append, List.length_append, List.length_singleton, List.length_singleton]
        omega) ⟨ds0, o, rfl, by
          apply List.ext_getElem?
          intro i
          by_cases z : i = mf
          · subst z; rw [set_at hm, hmf]
          · rw [List.getElem?_set_ne (Ne.symm z)], hds, by simpa using h0⟩
  rw [List.map_id', h1, h2] at e
  exact ⟨ds', o', e, h3, by omega⟩
end
end Q
end
section
-- M21
set_option Elab.async false
set_option linter.all false
set_option maxRecDepth 100000
namespace Q
open PySem (Str Operator CmpOp BoolOp PyData Paired)
section
variable {C : Q.Ctx} {call : Nat → List D → Store → Res R} {S : Store}
theorem ss_nx {s : Q.S} {r : Ss} {ρ ρ' : Env} {S S' : Store} (h : evS C call s ρ S = .ok (.nx ρ') S') : evSs C call (.cons s r) ρ S = evSs C call r ρ' S' := by
  rw [evSs, h]
  rfl
theorem ss_rt {s : Q.S} {r : Ss} {ρ : Env} {S S' : Store} {x : R} (h : evS C call s ρ S = .ok (.rt x) S') : evSs C call (.cons s r) ρ S = .ok (.rt x) S' := by
  rw [evSs, h]
  rfl
theorem atD_row {p : List Rat} {k : Nat} (h : k < p.length) : atD (p.map num) (k : Int) = some (num p[k]) := by
  rw [atD_nat (by rw [List.length_map]; exact h), List.getElem_map]
theorem ix_row {p : List Rat} {k : Nat} (S : Store) (h : k < p.length) : getItem S (.v (row p)) (.v (.int k)) = some (num p[k]) := by
  unfold row
  rw [ix_tup, atD_row h]
theorem pu_small {a b : Int} (ha : Lt 100 a) (hb : Lt 100 b) {n : Nat} : Pu 100 (n + 1) (.tup [.int a, .int b]) := .tup fun d hd => by
  rcases List.mem_cons.mp hd with z | z
  · subst z; exact .int ha
  · rw [List.mem_singleton] at z; subst z; exact .int hb
theorem sz_ninth : Sz 4 (Rat.divInt 1 9) := sz_div (by unfold Lt; decide) (by unfold Lt; decide) (by decide)
theorem d_ninth : D.tup [.int 1, .int 9] = num (Rat.divInt 1 9) := rfl
theorem sz_two : Sz 2 2 := ⟨by unfold Lt; decide, by unfold Lt; decide⟩
theorem d_two : D.tup [.int 2, .int 1] = num 2 := rfl
theorem d_one : D.tup [.int 1, .int 1] = num 1 := rfl
theorem d_nought : D.tup [.int 0, .int 1] = num 0 := rfl
def SNear (C : Q.Ctx) (d i : Nat) : Prop := (∀ a b, Q.fill C i [a, b] = some [a, b]) ∧ ∀ n S j c w p, Dice S j c → c + 1 ≤ 1000000 → Ln w 12 p → 1 ≤ w → w ≤ 8 →
  ∃ xs S', evCall C (n + d) i [.ref j, row p] S = .ok (.t xs) S' ∧ Ext j S S' ∧ Dice S' j (c + 1) ∧ (∀ d ∈ xs, Va 100 S'.length d) ∧ xs.length ≤ 300
theorem near_spec {i r a b m d : Nat} (h : C.fns[i]? = some (F_law_near r a b m)) (hr : SRoll C d r) (ha : SAdd C d a) (hb : SSub C d b) (hm : SMul C d m) : SNear C (d + 1) i := by
  refine ⟨fun x y => fill_of h rfl, fun n S j c w p hD hc hp h1 hw => ?_⟩
  have hj := hD.lt
  have hl : p.length = w := hp.len
  have hs : ∀ y ∈ p, Sz 100 y := fun y hy => (hp.sz y hy).mono (by decide)
  obtain ⟨k', S1, e1, k0, k1, x1, d1⟩ := hr.2 n S p.length j c hD (by omega) (by omega) (by omega)
  obtain ⟨k, rfl⟩ : ∃ k : Nat, k' = k := ⟨k'.toNat, by omega⟩
  have hk : k < p.length := by omega
  -- at
  have s1 : evS C (evCall C (n + d)) (.asg (.nm 2) (.call r (.cons (.var 0) (.cons (.bi1 .len (.var 1)) .nil)))) [some (.ref j), some (row p), none, none, none, none, none, none] S = .ok (.nx [some (.ref j), some (row p), some (.int k), none, none, none, none, none]) S1 := by
    simp [calm, len_row, hr.1, e1]
  -- found
  generalize hT : S1 ++ [Cell.lst (p.map num)] ++ [Cell.dct []] = T
  have hTl : T.length = S1.length + 2 := by rw [← hT]; simp
  let ds0 : List D := [row p, .ref S1.length, .tup (slice (p.map num) (some 1) none), .tup (p.map num ++ [num 0]), .non, .tup [], .int 0, .ref (S1.length + 1)]
  have s2 : evS C (evCall C (n + d)) (.asg (.nm 3) (.lst (.cons (.var 1) (.cons (.bi1 .list (.var 1)) (.cons (.slc (.var 1) (.so (.int 1)) .no) (.cons (.bin .Add (.var 1) (.tup (.cons (.tup (.cons (.int 0) (.cons (.int 1) .nil))) .nil))) (.cons .non (.cons (.tup .nil) (.cons (.int 0) (.cons .dct0 .nil)))))))))) [some (.ref j), some (row p), some (.int k), none, none, none, none, none] S1 = .ok (.nx [some (.ref j), some (row p), some (.int k), some (.ref T.length), none, none, none, none]) (T ++ [.lst ds0]) := by
    have z := fun S => add_tup S (p.map num) [num 0] (by rw [szl_eq, List.length_map, List.length_singleton]; omega)
    have el : ∀ S, evBi1 .list S (.v (row p)) = .ok (.t (p.map num)) S := fun S => rfl
    simp only [s_asg, e_lst, evEs, e_var, slot0, slotS, Res.bind_ok, settle_v, e_bi1, el, settle_t, e_slc, evB, e_int, e_bin, e_tup, d_nought, row, slc_tup, z, e_non, e_dct0, calm, asT_nm]
    rw [← hT]
    simp [ds0, row]
  generalize hT3 : T ++ [Cell.lst ds0] = T3
  have hT3l : T3.length = S1.length + 3 := by rw [← hT3]; simp [hTl]
  rw [hT3] at s2
  have hmf : T3[T.length]? = some (.lst ds0) := by rw [← hT3]; simp
  have x3 : Ext j S T3 := x1.trans (by
    rw [← hT3, ← hT]
    exact (Ext.push.trans Ext.push).trans Ext.push)
  have d3 : Dice T3 j (c + 1) := by
    rw [← hT3, ← hT]
    exact d1.push.push.push
  have hjT : j < T.length := by have := d1.lt; omega
  have hds0 : ∀ d ∈ ds0, Va 100 T3.length d := fun x hx => by
    have hsl : Pu 100 60 (.tup (slice (p.map num) (some 1) none)) := .tup fun y hy => by
      obtain ⟨q, hq, rfl⟩ := List.mem_map.mp (slice_mem hy)
      exact (pu_num (n := 0) (hs q hq)).up (by decide)
    simp only [ds0, List.mem_cons, List.not_mem_nil, or_false] at hx
    rcases hx with z | z | z | z | z | z | z | z <;> rw [z]
    · exact .pu ((pu_row (n := 0) hs).up (by decide))
    · exact .ref (by omega)
    · exact .pu hsl
    · refine .pu (.tup fun y hy => ?_)
      rcases List.mem_append.mp hy with z | z
      · obtain ⟨q, hq, rfl⟩ := List.mem_map.mp z
        exact (pu_num (n := 0) (hs q hq)).up (by decide)
      · rw [List.mem_singleton] at z
        rw [z]
        exact (pu_num (n := 0) (sz_zero.mono (by decide))).up (by decide)
    · exact .pu .non
    · exact .pu (.tup fun y hy => by simp at hy)
    · exact .pu (.int (by unfold Lt; decide))
    · exact .ref (by omega)
  -- one
  have s3 : evS C (evCall C (n + d)) (.asg (.nm 4) (.idx (.var 1) (.var 2))) [some (.ref j), some (row p), some (.int k), some (.ref T.length), none, none, none, none] T3 = .ok (.nx [some (.ref j), some (row p), some (.int k), some (.ref T.length), some (num p[k]), none, none, none]) T3 := by
    simp [calm, ix_row T3 hk]
  -- odd ones
  have hpk := hp.sz p[k] (List.getElem_mem hk)
  have c1 := ha 12 4 p[k] (Rat.divInt 1 9) hpk sz_ninth (by decide)
  have c2 := hb 12 1 p[k] 1 hpk sz_one (by decide)
  have pa : Pu 100 50 (num (p[k] + Rat.divInt 1 9)) := (pu_num (n := 0) ((sz_add hpk sz_ninth).mono (by decide))).up (by decide)
  have ps : Pu 100 50 (num (p[k] - 1)) := (pu_num (n := 0) ((sz_sub hpk sz_one).mono (by decide))).up (by decide)
  let odds : List D := [num 0, num 1, num (p[k] + Rat.divInt 1 9), num (p[k] - 1), .tup [.int 2, .int 2], .int 1, .non, .tup [.bl true, .int 1], .tup [.int 1, .int 0]]
  have hodd : ∀ x ∈ odds, Pu 100 50 x := fun x hx => by
    simp only [odds, List.mem_cons, List.not_mem_nil, or_false] at hx
    rcases hx with z | z | z | z | z | z | z | z | z <;> rw [z]
    · exact (pu_num (n := 0) (sz_zero.mono (by decide))).up (by decide)
    · exact (pu_num (n := 0) (sz_one.mono (by decide))).up (by decide)
    · exact pa
    · exact ps
    · exact pu_small (by unfold Lt; decide) (by unfold Lt; decide)
    · exact .int (by unfold Lt; decide)
    · exact .non
    · refine .tup fun y hy => ?_
      simp only [List.mem_cons, List.not_mem_nil, or_false] at hy
      rcases hy with z | z <;> rw [z]
      · exact .bl _
      · exact .int (by unfold Lt; decide)
    · exact pu_small (by unfold Lt; decide) (by unfold Lt; decide)
  have eT : evE C (evCall C (n + d)) (.tup (.cons (.tup (.cons (.int 0) (.cons (.int 1) .nil))) (.cons (.tup (.cons (.int 1) (.cons (.int 1) .nil))) (.cons (.call a (.cons (.var 4) (.cons (.tup (.cons (.int 1) (.cons (.int 9) .nil))) .nil))) (.cons (.call b (.cons (.var 4) (.cons (.tup (.cons (.int 1) (.cons (.int 1) .nil))) .nil))) (.cons (.tup (.cons (.int 2) (.cons (.int 2) .nil))) (.cons (.int 1) (.cons .non (.cons (.tup (.cons (.bl true) (.cons (.int 1) .nil))) (.cons (.tup (.cons (.int 1) (.cons (.int 0) .nil))) .nil)))))))))) [some (.ref j), some (row p), some (.int k), some (.ref T.length), some (num p[k]), none, none, none] T3 = .ok (.v (.tup odds)) T3 := by
    simp [odds, d_ninth, d_one, d_nought, c1.fill, c1.run, c2.fill, c2.run]
  obtain ⟨ds4, o4, s4, v4, l4⟩ := near_loop (C := C) (n := n) (d := d) (w := w) (call := evCall C (n + d)) (j := j) (k := k) (p := p) (odds := odds) (o := none) (t := none) (one := some (num p[k])) (e1 := none) (e2 := none) hmf hs (by omega) hds0 (by simp [ds0]) (by simp [odds]) hodd (by omega)
  have s4 := (s_for (b := (.cons (.expr (.met .append (.var 3) (.bin .Add (.bin .Add (.slc (.var 1) .no (.so (.var 2))) (.tup (.cons (.var 5) .nil))) (.slc (.var 1) (.so (.bin .Add (.var 2) (.int 1))) .no)))) .nil)) (t := .nm 5) (evI_row eT)).trans s4
  have hTlt : T.length < T3.length := by omega
  have hS4 : (T3.set T.length (.lst ds4))[T.length]? = some (.lst ds4) := set_at hTlt
  have hlS4 : (T3.set T.length (.lst ds4)).length = T3.length := List.length_set
  have x4 : Ext j S (T3.set T.length (.lst ds4)) := ⟨by rw [hlS4]; exact x3.len, fun i hi hn => by
    have := x1.len
    rw [List.getElem?_set_ne (by omega)]
    exact x3.at_ i hi hn⟩
  have d4 : Dice (T3.set T.length (.lst ds4)) j (c + 1) := d3.ext (S' := T3) (by omega)
  generalize hS4e : T3.set T.length (.lst ds4) = S4 at *
  -- the bent one
  have s5 : ∃ e1' e2' S5 ds5, evS C (evCall C (n + d)) (.ife (.cmp .Gt (.bi1 .len (.var 1)) (.int 1)) (.cons (.asg (.nm 6) (.bin .Mod (.bin .Add (.var 2) (.int 1)) (.bi1 .len (.var 1)))) (.cons (.asg (.nm 7) (.bi1 .list (.var 1))) (.cons (.asg (.tp (.cons (.sb (.var 7) (.var 2)) (.cons (.sb (.var 7) (.var 6)) .nil))) (.tup (.cons (.call b (.cons (.var 4) (.cons (.tup (.cons (.int 2) (.cons (.int 1) .nil))) .nil))) (.cons (.call a (.cons (.idx (.var 1) (.var 6)) (.cons (.tup (.cons (.int 2) (.cons (.int 1) .nil))) .nil))) .nil)))) (.cons (.expr (.met .append (.var 3) (.bi1 .tuple (.var 7)))) .nil)))) .nil) [some (.ref j), some (row p), some (.int k), some (.ref T.length), some (num p[k]), o4, none, none] S4 =
        .ok (.nx [some (.ref j), some (row p), some (.int k), some (.ref T.length), some (num p[k]), o4, e1', e2']) S5 ∧ S5[T.length]? = some (.lst ds5) ∧ (∀ d ∈ ds5, Va 100 S5.length d) ∧ ds5.length ≤ 201 ∧ Ext j S S5 ∧ Dice S5 j (c + 1) := by
    by_cases hw1 : 1 < p.length
    · have hL : (k + 1) % p.length < p.length := Nat.mod_lt _ (by omega)
      have em : ((k : Int) + 1).fmod (p.length : Int) = (((k + 1) % p.length : Nat) : Int) := by
        have := fmod_nat (k + 1) p.length
        rw [← this]
        rfl
      generalize hLe : (k + 1) % p.length = L at *
      have hpL := hp.sz p[L] (List.getElem_mem hL)
      have c3 := hb 12 2 p[k] 2 hpk sz_two (by decide)
      have c4 := ha 12 2 p[L] 2 hpL sz_two (by decide)
      have el : ∀ S, evBi1 .list S (.v (row p)) = .ok (.t (p.map num)) S := fun S => rfl
      have hmod := fun S => mod_int S ((k : Int) + 1) (p.length : Int) (by omega)
      let bent := ((p.map num).set k (num (p[k] - 2))).set L (num (p[L] + 2))
      have hS5 : (S4 ++ [Cell.lst (p.map num)])[S4.length]? = some (.lst (p.map num)) := by simp
      have w1 := asT_sb (C := C) (call := evCall C (n + d)) (S := S4 ++ [Cell.lst (p.map num)]) (n := S4.length) (j := 7) (k := k) (i := k) (d := num (p[k] - 2)) (ρ := [some (.ref j), some (row p), some (.int k), some (.ref T.length), some (num p[k]), o4, some (.int L), some (.ref S4.length)]) (e := .var 2) rfl (by simp) hS5 (ixD_nat (by rw [List.length_map]; exact hk))
      generalize hS6 : (S4 ++ [Cell.lst (p.map num)]).set S4.length (.lst ((p.map num).set k (num (p[k] - 2)))) = S6 at *
      have hS6l : S6.length = S4.length + 1 := by rw [← hS6]; simp
      have hS6c : S6[S4.length]? = some (.lst ((p.map num).set k (num (p[k] - 2)))) := by rw [← hS6]; exact set_at (by simp)
      have w2 := asT_sb (C := C) (call := evCall C (n + d)) (S := S6) (n := S4.length) (j := 7) (k := L) (i := L) (d := num (p[L] + 2)) (ρ := [some (.ref j), some (row p), some (.int k), some (.ref T.length), some (num p[k]), o4, some (.int L), some (.ref S4.length)]) (e := .var 6) rfl (by simp) hS6c (ixD_nat (by rw [List.length_set, List.length_map]; exact hL))
      generalize hS7 : S6.set S4.length (.lst (((p.map num).set k (num (p[k] - 2))).set L (num (p[L] + 2)))) = S7 at *
      have hS7l : S7.length = S4.length + 1 := by rw [← hS7, List.length_set, hS6l]
      have hS7c : S7[S4.length]? = some (.lst bent) := by rw [← hS7]; exact set_at (by omega)
      have hS7m : ∀ i, i < S4.length → S7[i]? = S4[i]? := fun i hi => by
        rw [← hS7, List.getElem?_set_ne (by omega), ← hS6, List.getElem?_set_ne (by omega), List.getElem?_append_left hi]
      have hS7T : S7[T.length]? = some (.lst ds4) := by rw [hS7m _ (by omega)]; exact hS4
      have tb : evBi1 .tuple S7 (.v (.ref S4.length)) = .ok (.v (.tup bent)) S7 := by
        unfold evBi1 seqOf
        dsimp only
        rw [hS7c]
      have ap := e_append (C := C) (call := evCall C (n + d)) (i := 3) (e := .bi1 .tuple (.var 7)) (ρ := [some (.ref j), some (row p), some (.int k), some (.ref T.length), some (num p[k]), o4, some (.int L), some (.ref S4.length)]) (d := .tup bent) rfl hS7T (by simp [tb]) hS7T (by rw [szl_eq]; omega)
      have w3 : asT C (evCall C (n + d)) (.tp (.cons (.sb (.var 7) (.var 2)) (.cons (.sb (.var 7) (.var 6)) .nil))) (.tup [num (p[k] - 2), num (p[L] + 2)]) [some (.ref j), some (row p), some (.int k), some (.ref T.length), some (num p[k]), o4, some (.int L), some (.ref S4.length)] (S4 ++ [Cell.lst (p.map num)]) = .ok [some (.ref j), some (row p), some (.int k), some (.ref T.length), some (num p[k]), o4, some (.int L), some (.ref S4.length)] S7 := by
        rw [asT]
        simp [-as_nm, -as_tp, -as_sb, tupOf, uncons, Ts.len, w1, w2]
      refine ⟨some (.int L), some (.ref S4.length), S7.set T.length (.lst (ds4 ++ [.tup bent])), ds4 ++ [.tup bent], ?_, set_at (by omega), fun x hx => ?_, by rw [List.length_append, List.length_singleton]; omega, ?_, ?_⟩
      · have g1 : decide ((1 : Int) < (p.length : Int)) = true := decide_eq_true (by omega)
        simp only [s_ife, e_cmp, e_bi1, e_var, slot0, slotS, Res.bind_ok, len_row, e_int, gt_int, opt_some, g1, truth_bl, if_true]
        rw [ss_nx (ρ' := [some (.ref j), some (row p), some (.int k), some (.ref T.length), some (num p[k]), o4, some (.int L), none]) (S' := S4) (by simp [calm, len_row, hmod, em]),
          ss_nx (ρ' := [some (.ref j), some (row p), some (.int k), some (.ref T.length), some (num p[k]), o4, some (.int L), some (.ref S4.length)]) (S' := S4 ++ [Cell.lst (p.map num)]) (by simp [calm, el]),
          ss_nx (ρ' := [some (.ref j), some (row p), some (.int k), some (.ref T.length), some (num p[k]), o4, some (.int L), some (.ref S4.length)]) (S' := S7) (by simp [-as_nm, -as_tp, -as_sb, calm, d_two, c3.fill, c3.run, c4.fill, c4.run, ix_row _ hL, w3])]
        simp only [evSs, s_expr, ap, Res.bind_ok]
      · rw [List.length_set]
        rcases List.mem_append.mp hx with z | z
        · exact (v4 x z).up (by omega)
        · rw [List.mem_singleton] at z
          rw [z]
          refine .pu (.tup fun y hy => ?_)
          have hb1 : Pu 100 59 (num (p[k] - 2)) := (pu_num (n := 0) ((sz_sub hpk sz_two).mono (by decide))).up (by decide)
          have hb2 : Pu 100 59 (num (p[L] + 2)) := (pu_num (n := 0) ((sz_add hpL sz_two).mono (by decide))).up (by decide)
          rcases List.mem_or_eq_of_mem_set hy with z | z
          · rcases List.mem_or_eq_of_mem_set z with z | z
            · obtain ⟨q, hq, rfl⟩ := List.mem_map.mp z
              exact (pu_num (n := 0) (hs q hq)).up (by decide)
            · rw [z]; exact hb1
          · rw [z]; exact hb2
      · refine ⟨by rw [List.length_set]; have := x4.len; omega, fun i hi hn => ?_⟩
        have := x1.len
        rw [List.getElem?_set_ne (by omega), hS7m i (by have := x4.len; omega)]
        exact x4.at_ i hi hn
      · refine Dice.ext (S' := S7) ?_ (by omega)
        have hj4 := d4.lt
        obtain ⟨u1, u2, u3, u4, u5⟩ := d4
        exact ⟨u1, u2, u3, by rw [hS7m j hj4]; exact u4, u5⟩
    · have g1 : decide ((1 : Int) < (p.length : Int)) = false := decide_eq_false (by omega)
      refine ⟨none, none, S4, ds4, ?_, hS4, fun x hx => by rw [hlS4]; exact v4 x hx, by omega, x4, d4⟩
      simp only [s_ife, e_cmp, e_bi1, e_var, slot0, slotS, Res.bind_ok, len_row, e_int, gt_int, opt_some, g1, truth_bl, Bool.false_eq_true, if_false, evSs]
  obtain ⟨e1', e2', S5, ds5, s5, hS5, v5, l5, x5, d5⟩ := s5
  have key := lc_map (C := C) (call := evCall C (n + d)) (S := S5) (elt := .call m (.cons (.tup (.cons (.int 2) (.cons (.int 1) .nil))) (.cons (.var 4) .nil))) (tg := .nm 4) (it := .seq (.var 1)) (k := 0) (ρ := [some (.ref j), some (row p), some (.int k), some (.ref T.length), some (num p[k]), o4, e1', e2']) (l := p) (f := num)
    (g := fun x => num (2 * x)) (evI_row (by simp [row])) fun y hy => by
    refine ⟨_, asT_nm, ?_⟩
    show evE C (evCall C (n + d)) _ [some (.ref j), some (row p), some (.int k), some (.ref T.length), some (num y), o4, e1', e2'] S5 = _
    have c5 := hm 2 12 2 y sz_two (hp.sz y hy) (by decide)
    simp [d_two, c5.fill, c5.run]
  let last : List D := [.tup (p.map fun x => num (2 * x)), .tup (p.map num).reverse, .str "chances"]
  have s6 : evS C (evCall C (n + d)) (.ret (.bin .Add (.var 3) (.lst (.cons (.bi1 .tuple (.lc (.call m (.cons (.tup (.cons (.int 2) (.cons (.int 1) .nil))) (.cons (.var 4) .nil))) (.nm 4) (.seq (.var 1)) .no 0)) (.cons (.rev (.var 1)) (.cons (.str "chances") .nil)))))) [some (.ref j), some (row p), some (.int k), some (.ref T.length), some (num p[k]), o4, e1', e2'] S5 = .ok (.rt (.t (ds5 ++ last))) S5 := by
    have z := add_refs S5 T.length ds5 last hS5 (by rw [szl_eq]; simp [last]; omega)
    have er : getRev S5 (.v (row p)) = .ok (.v (.tup (p.map num).reverse)) S5 := rfl
    simp only [s_ret, e_bin, e_var, slot0, slotS, Res.bind_ok, e_lst, evEs, e_bi1, key, tuple_t, settle_v, e_rev, er, e_str]
    rw [z]
    rfl
  have hlast : ∀ x ∈ last, Va 100 S5.length x := fun x hx => by
    simp only [last, List.mem_cons, List.not_mem_nil, or_false] at hx
    rcases hx with z | z | z <;> rw [z]
    · refine .pu (.tup fun y hy => ?_)
      obtain ⟨q, hq, rfl⟩ := List.mem_map.mp hy
      exact (pu_num (n := 0) ((sz_mul sz_two (hp.sz q hq)).mono (by decide))).up (by decide)
    · refine .pu (.tup fun y hy => ?_)
      obtain ⟨q, hq, rfl⟩ := List.mem_map.mp (List.mem_reverse.mp hy)
      exact (pu_num (n := 0) (hs q hq)).up (by decide)
    · exact .pu (.str (by decide +kernel))
  obtain ⟨S6, e6, x6, d6, v6⟩ := ev_diceT (m := n + d) (n := j) (c := c + 1) (S' := S5) (xs := ds5 ++ last) (ds := [.ref j, row p]) h rfl hj (by
    show evSs C (evCall C (n + d)) (t_law_near r a b m) [some (.ref j), some (row p), none, none, none, none, none, none] S = _
    unfold t_law_near
    rw [ss_nx s1, ss_nx s2, ss_nx s3, ss_nx s4, ss_nx s5, ss_rt s6]) x5 d5 (fun x hx => by
      rcases List.mem_append.mp hx with z | z
      · exact v5 x z
      · exact hlast x z)
  exact ⟨_, S6, e6, x6, d6, v6, by simp [last]; omega⟩
end
end Q
end
section
-- M22
set_option Elab.async false
set_option linter.all false
set_option maxRecDepth 100000
namespace Q
open PySem (Str Operator CmpOp BoolOp PyData Paired)
section
variable {C : Q.Ctx} {call : Nat → List D → Store → Res R} {S : Store}
theorem s_forS {t : T} {it : It} {b : Ss} {ρ : Env} {ds : List D} {S S' : Store} (h : evI C call it ρ S = .ok (.its ds) S') : evS C call (.for t it b) ρ S = forL (fun d ρ S => (calm (asT C call t d ρ S)).bind fun ρ S => evSs C call b ρ S) ds ρ S' := by
  rw [evS, h]
  rfl
theorem evI_tS {e : E} {ρ : Env} {ds : List D} {S S' : Store} (h : evE C call e ρ S = .ok (.t ds) S') : evI C call (.seq e) ρ S = .ok (.its ds) S' := by
  rw [evI, h]
  rfl
theorem repr_bl (S : Store) (b : Bool) : evBi1 .repr S (.v (.bl b)) = .ok (.v (.str (if b then Str.ofString "True" else Str.ofString "False"))) S := rfl
theorem ne_repr (S : Store) (b : Bool) : evCmp .NotEq S (.v (.str (if b then Str.ofString "True" else Str.ofString "False"))) (.v (.str (if b then Str.ofString "True" else Str.ofString "False"))) = some false := by
  have : ∀ x : Str, (PyData.str x).canLay0 = true → evCmp .NotEq S (.v (.str x)) (.v (.str x)) = some false := fun x h => by
    have p : Py (.str x) (.str x) 0 := ⟨fun S f h => by cases f with | zero => omega | succ f => rfl, h, by rw [PyData.depth]; exact Nat.le_refl _⟩
    rw [evc_ne, eqP_of p p (by decide) (by decide), PyData.eqv]
    simp
  cases b
  · exact this _ (by decide +kernel)
  · exact this _ (by decide +kernel)
theorem Vt.up {k n m : Nat} {d : D} (h : Vt k n d) (e : n ≤ m) : Vt k m d := by
  cases h with
  | va h z => exact .va (h.up e) z
  | tup h => exact .tup fun d hd => (h d hd).up e
theorem slc_tab (S : Store) (t : List (List Rat)) (lo hi : Option Int) : getSlice S (.v (tabD t)) lo hi = .ok (.v (.tup (slice (t.map row) lo hi))) S := rfl
/-- the loop that puts rows in -/
theorem rows_loop {j k mf : Nat} {p : List Rat} {t : List (List Rat)} {xs : List D} {S3 : Store} {ds0 : List D} {W v4 : Option D} {hh : D} (hmf : S3[mf]? = some (.lst ds0)) (ht : ∀ r ∈ t, ∀ y ∈ r, Sz 100 y) (hw : t.length ≤ 8) (hds : ∀ d ∈ ds0, Vt 100 S3.length d) (h0 : ds0.length ≤ 100) (hx : xs.length ≤ 1000) (hxs : ∀ x ∈ xs, Va 100 S3.length x) (o : Option D) :
    ∃ ds' o', forL (fun d' ρ S => (calm (asT C call (.nm 6) d' ρ S)).bind fun ρ S => evSs C call (.cons (.expr (.met .append (.var 5) (.bin .Add (.bin .Add (.slc (.var 3) .no (.so (.var 8))) (.tup (.cons (.var 6) .nil))) (.slc (.var 3) (.so (.bin .Add (.var 8) (.int 1))) .no)))) .nil) ρ S) xs [some (.ref j), W, some (row p), some (tabD t), v4, some (.ref mf), o, some hh, some (.int k)] S3 =
      .ok (.nx [some (.ref j), W, some (row p), some (tabD t), v4, some (.ref mf), o', some hh, some (.int k)]) (S3.set mf (.lst ds')) ∧ (∀ d ∈ ds', Vt 100 S3.length d) ∧ ds'.length ≤ 1100 := by
  have hm := (List.getElem?_eq_some_iff.mp hmf).1
  obtain ⟨ρ', S', e, ds', o', h1, h2, h3, h4⟩ := forL_typed (S := S3) (f := fun x : D => x) (turn := fun d' ρ S => (calm (asT C call (.nm 6) d' ρ S)).bind fun ρ S => evSs C call (.cons (.expr (.met .append (.var 5) (.bin .Add (.bin .Add (.slc (.var 3) .no (.so (.var 8))) (.tup (.cons (.var 6) .nil))) (.slc (.var 3) (.so (.bin .Add (.var 8) (.int 1))) .no)))) .nil) ρ S) (l := xs) (ρ := [some (.ref j), W, some (row p), some (tabD t), v4, some (.ref mf), o, some hh, some (.int k)])
    (fun done ρ S' => ∃ ds' o', ρ = [some (.ref j), W, some (row p), some (tabD t), v4, some (.ref mf), o', some hh, some (.int k)] ∧ S' = S3.set mf (.lst ds') ∧ (∀ d ∈ ds', Vt 100 S3.length d) ∧ ds'.length ≤ 100 + done.length) (fun done b rest ρ S' el ⟨ds', o', a1, a2, a3, a4⟩ => by
      subst a1 a2
      have hb : b ∈ xs := by rw [el]; simp
      have hl : done.length + 1 ≤ xs.length := by rw [el, List.length_append, List.length_cons]; omega
      have hS : (S3.set mf (.lst ds'))[mf]? = some (.lst ds') := set_at hm
      refine ⟨[some (.ref j), W, some (row p), some (tabD t), v4, some (.ref mf), some b, some hh, some (.int k)], S3.set mf (.lst (ds' ++ [.tup (slice (t.map row) none (some (k : Int)) ++ [b] ++ slice (t.map row) (some ((k : Int) + 1)) none)])), .inl ?_, ds' ++ [.tup (slice (t.map row) none (some (k : Int)) ++ [b] ++ slice (t.map row) (some ((k : Int) + 1)) none)], some b, rfl, rfl, fun d hd => ?_, ?_⟩
      · have ev : evE C call (.bin .Add (.bin .Add (.slc (.var 3) .no (.so (.var 8))) (.tup (.cons (.var 6) .nil))) (.slc (.var 3) (.so (.bin .Add (.var 8) (.int 1))) .no)) [some (.ref j), W, some (row p), some (tabD t), v4, some (.ref mf), some b, some hh, some (.int k)] (S3.set mf (.lst ds')) = .ok (.v (.tup (slice (t.map row) none (some (k : Int)) ++ [b] ++ slice (t.map row) (some ((k : Int) + 1)) none))) (S3.set mf (.lst ds')) := by
          have l1 := slice_len (ds := t.map row) (lo := none) (hi := some (k : Int))
          have l2 := slice_len (ds := t.map row) (lo := some ((k : Int) + 1)) (hi := none)
          rw [List.length_map] at l1 l2
          have z1 := add_tup (S3.set mf (.lst ds')) (slice (t.map row) none (some (k : Int))) [b] (by rw [szl_eq, List.length_singleton]; omega)
          have z2 := add_tup (S3.set mf (.lst ds')) (slice (t.map row) none (some (k : Int)) ++ [b]) (slice (t.map row) (some ((k : Int) + 1)) none) (by rw [szl_eq, List.length_append, List.length_singleton]; omega)
          simp only [e_bin, e_slc, e_var, e_int, e_tup, evEs, evB, slot0, slotS, Res.bind_ok, settle_v, slc_tab, add_int, z1, z2]
        have ap := e_append (C := C) (call := call) (i := 5) (ρ := [some (.ref j), W, some (row p), some (tabD t), v4, some (.ref mf), some b, some hh, some (.int k)]) rfl hS ev hS (by rw [szl_eq]; omega)
        rw [List.set_set] at ap
        show (calm (asT C call (.nm 6) b _ _)).bind _ = _
        rw [asT_nm]
        show evSs C call _ [some (.ref j), W, some (row p), some (tabD t), v4, some (.ref mf), some b, some hh, some (.int k)] _ = _
        simp only [evSs, s_expr, ap, Res.bind_ok]
      · have hr : ∀ d lo hi, d ∈ slice (t.map row) lo hi → Va 100 S3.length d := fun d lo hi z => by
          obtain ⟨r, hr, rfl⟩ := List.mem_map.mp (slice_mem z)
          exact .pu ((pu_row (n := 0) (ht r hr)).up (by decide))
        rcases List.mem_append.mp hd with z | z
        · exact a3 d z
        · rw [List.mem_singleton] at z
          rw [z]
          refine .tup fun y hy => ?_
          rcases List.mem_append.mp hy with z | z
          · rcases List.mem_append.mp z with z | z
            · exact hr y _ _ z
            · rw [List.mem_singleton] at z
              rw [z]
              exact hxs b hb
          · exact hr y _ _ z
      · rw [List.length_append, List.length_append, List.length_singleton, List.length_singleton]
        omega) ⟨ds0, o, rfl, by
          apply List.ext_getElem?
          intro i
          by_cases z : i = mf
          · subst z; rw [set_at hm, hmf]
          · rw [List.getElem?_set_ne (Ne.symm z)], hds, by simpa using h0⟩
  rw [List.map_id', h1, h2] at e
  exact ⟨ds', o', e, h3, by omega⟩
/-- one judged by both -/
theorem judge_turn {a b d n : Nat} {w : Nat} (ha : SJw C d a (fun w S x => Va 100 S.length x ∧ 1 ≤ w ∧ w ≤ 8) isCh) (hb : SIsCh C d b) (h1 : 1 ≤ w) (h2 : w ≤ 8) {x : D} (hx : Va 100 S.length x) {r0 r2 r3 r5 r6 r7 r8 : Option D} :
    evSs C (evCall C (n + d)) (.cons (.ife (.cmp .NotEq (.bi1 .repr (.call a (.cons (.var 1) (.cons (.var 4) .nil)))) (.bi1 .repr (.call b (.cons (.var 1) (.cons (.var 4) .nil))))) (.cons (.ret (.bl false)) .nil) .nil) .nil) [r0, some (.int w), r2, r3, some x, r5, r6, r7, r8] S = .ok (.nx [r0, some (.int w), r2, r3, some x, r5, r6, r7, r8]) S := by
  have e1 := ha.run n S w x ⟨hx, h1, h2⟩
  have e2 := hb.run n S w x ⟨hx, le_8 h2⟩
  simp only [evSs, s_ife, e_cmp, e_bi1, e_call, evEs, e_var, slot0, slotS, Res.bind_ok, settle_v, ha.fill, hb.fill, opt_some, e1, e2, repr_bl, ne_repr, truth_bl, Bool.false_eq_true, if_false]
theorem judge_turnT {a b d n : Nat} {w h : Nat} (ha : SJt C d a (fun g w S x => Vt 100 S.length x ∧ 1 ≤ w ∧ w ≤ 8 ∧ 1 ≤ g ∧ g ≤ 8) isTb) (hb : SIsTb C d b) (h1 : 1 ≤ w) (h2 : w ≤ 8) (h3 : 1 ≤ h) (h4 : h ≤ 8) {x : D} (hx : Vt 100 S.length x) {r0 r2 r3 r5 r6 r8 : Option D} :
    evSs C (evCall C (n + d)) (.cons (.ife (.cmp .NotEq (.bi1 .repr (.call a (.cons (.var 7) (.cons (.var 1) (.cons (.var 4) .nil))))) (.bi1 .repr (.call b (.cons (.var 7) (.cons (.var 1) (.cons (.var 4) .nil)))))) (.cons (.ret (.bl false)) .nil) .nil) .nil) [r0, some (.int w), r2, r3, some x, r5, r6, some (.int h), r8] S = .ok (.nx [r0, some (.int w), r2, r3, some x, r5, r6, some (.int h), r8]) S := by
  have e1 := ha.run n S h w x ⟨hx, h1, h2, h3, h4⟩
  have e2 := hb.run n S h w x ⟨hx, le_8 h2⟩
  simp only [evSs, s_ife, e_cmp, e_bi1, e_call, evEs, e_var, slot0, slotS, Res.bind_ok, settle_v, ha.fill, hb.fill, opt_some, e1, e2, repr_bl, ne_repr, truth_bl, Bool.false_eq_true, if_false]
theorem judge_loop {a b d n : Nat} {w : Nat} (ha : SJw C d a (fun w S x => Va 100 S.length x ∧ 1 ≤ w ∧ w ≤ 8) isCh) (hb : SIsCh C d b) (h1 : 1 ≤ w) (h2 : w ≤ 8) {xs : List D} (hxs : ∀ x ∈ xs, Va 100 S.length x) {r0 r2 r3 r5 r6 r7 r8 : Option D} :
    ∀ o, ∃ o', forL (fun d' ρ S => (calm (asT C (evCall C (n + d)) (.nm 4) d' ρ S)).bind fun ρ S => evSs C (evCall C (n + d)) (.cons (.ife (.cmp .NotEq (.bi1 .repr (.call a (.cons (.var 1) (.cons (.var 4) .nil)))) (.bi1 .repr (.call b (.cons (.var 1) (.cons (.var 4) .nil))))) (.cons (.ret (.bl false)) .nil) .nil) .nil) ρ S) xs [r0, some (.int w), r2, r3, o, r5, r6, r7, r8] S = .ok (.nx [r0, some (.int w), r2, r3, o', r5, r6, r7, r8]) S := by
  induction xs with
  | nil => intro o; exact ⟨o, by rw [forL]⟩
  | cons x r ih =>
    intro o
    obtain ⟨o', e⟩ := ih (fun y hy => hxs y (List.mem_cons_of_mem _ hy)) (some x)
    refine ⟨o', ?_⟩
    have t := judge_turn (C := C) (S := S) (n := n) ha hb h1 h2 (hxs x List.mem_cons_self) (r0 := r0) (r2 := r2) (r3 := r3) (r5 := r5) (r6 := r6) (r7 := r7) (r8 := r8)
    rw [forL, asT_nm]
    show (evSs C (evCall C (n + d)) _ [r0, some (.int w), r2, r3, some x, r5, r6, r7, r8] S).bind _ = _
    rw [t]
    exact e
theorem judge_loopT {a b d n : Nat} {w h mf : Nat} (ha : SJt C d a (fun g w S x => Vt 100 S.length x ∧ 1 ≤ w ∧ w ≤ 8 ∧ 1 ≤ g ∧ g ≤ 8) isTb) (hb : SIsTb C d b) (h1 : 1 ≤ w) (h2 : w ≤ 8) (h3 : 1 ≤ h) (h4 : h ≤ 8) {xs : List D} (hS : S[mf]? = some (.lst xs)) (hxs : ∀ x ∈ xs, Vt 100 S.length x) {r0 r2 r3 r5 r6 r8 : Option D} (o : Option D) :
    ∃ o', forV (fun d' ρ S => (calm (asT C (evCall C (n + d)) (.nm 4) d' ρ S)).bind fun ρ S => evSs C (evCall C (n + d)) (.cons (.ife (.cmp .NotEq (.bi1 .repr (.call a (.cons (.var 7) (.cons (.var 1) (.cons (.var 4) .nil))))) (.bi1 .repr (.call b (.cons (.var 7) (.cons (.var 1) (.cons (.var 4) .nil)))))) (.cons (.ret (.bl false)) .nil) .nil) .nil) ρ S) mf xs.length 0 [r0, some (.int w), r2, r3, o, r5, r6, some (.int h), r8] S = .ok (.nx [r0, some (.int w), r2, r3, o', r5, r6, some (.int h), r8]) S := by
  obtain ⟨ρ', e, o', e2⟩ := forV_typed (S := S) (n := mf) (ds := xs) (turn := fun d' ρ S => (calm (asT C (evCall C (n + d)) (.nm 4) d' ρ S)).bind fun ρ S => evSs C (evCall C (n + d)) (.cons (.ife (.cmp .NotEq (.bi1 .repr (.call a (.cons (.var 7) (.cons (.var 1) (.cons (.var 4) .nil))))) (.bi1 .repr (.call b (.cons (.var 7) (.cons (.var 1) (.cons (.var 4) .nil)))))) (.cons (.ret (.bl false)) .nil) .nil) .nil) ρ S) hS (fun _ ρ => ∃ o', ρ = [r0, some (.int w), r2, r3, o', r5, r6, some (.int h), r8]) (fun done x rest ρ el ⟨o', e2⟩ => by
    subst e2
    have hx : x ∈ xs := by rw [el]; simp
    refine ⟨[r0, some (.int w), r2, r3, some x, r5, r6, some (.int h), r8], ?_, some x, rfl⟩
    have t := judge_turnT (C := C) (S := S) (n := n) ha hb h1 h2 h3 h4 (hxs x hx) (r0 := r0) (r2 := r2) (r3 := r3) (r5 := r5) (r6 := r6) (r8 := r8)
    show (calm (asT C (evCall C (n + d)) (.nm 4) x _ S)).bind _ = _
    rw [asT_nm]
    exact t) xs.length 0 [r0, some (.int w), r2, r3, o, r5, r6, some (.int h), r8] (by omega) ⟨o, rfl⟩
  rw [e2] at e
  exact ⟨o', e⟩
end
end Q
end
section
-- M23
set_option Elab.async false
set_option linter.all false
set_option maxRecDepth 100000
namespace Q
open PySem (Str Operator CmpOp BoolOp PyData Paired)
section
variable {C : Q.Ctx} {call : Nat → List D → Store → Res R} {S : Store}
theorem mul_repR (S : Store) (w : Nat) (x : D) (h : w ≤ 1000) : evBin .Mult S (.v (.tup [x])) (.v (.int w)) = .ok (.v (.tup (List.replicate w x))) S := by
  have e : ∀ w : Nat, (List.replicate w [x]).flatten = List.replicate w x := fun w => by
    induction w with
    | zero => rfl
    | succ n ih => rw [List.replicate_succ, List.flatten_cons, ih, List.replicate_succ]; rfl
  show (if (Nat.ble [x].length 1000 && decide ((w : Int) ≤ 1000) && decide (0 ≤ (w : Int))) = true then _ else _) = _
  rw [if_pos (by simp; omega), Int.toNat_natCast, e]
theorem len_tab (S : Store) (t : List (List Rat)) : evBi1 .len S (.v (tabD t)) = .ok (.v (.int t.length)) S := by
  unfold tabD
  rw [len_tup, List.length_map]
theorem ix_tab {t : List (List Rat)} {k : Nat} (S : Store) (h : k < t.length) : getItem S (.v (tabD t)) (.v (.int k)) = some (row t[k]) := by
  unfold tabD
  rw [ix_tup, atD_nat (by rw [List.length_map]; exact h), List.getElem_map]
theorem Ch.up {w k l : Nat} {r : List Rat} (h : Ch w k r) (e : k ≤ l) : Ch w l r := ⟨h.len, fun x hx => (h.sz x hx).mono e, h.pos, h.sum⟩
/-- the judged ones are judged alike -/
theorem judged_spec {i nr a b r a' b' d : Nat} (h : C.fns[i]? = some (F_law_judged_right nr a b r a' b')) (hn : SNear C d nr) (ha : SJw C d a (fun w S x => Va 100 S.length x ∧ 1 ≤ w ∧ w ≤ 8) isCh) (hb : SIsCh C d b) (hr : SRoll C d r)
    (ha' : SJt C d a' (fun g w S x => Vt 100 S.length x ∧ 1 ≤ w ∧ w ≤ 8 ∧ 1 ≤ g ∧ g ≤ 8) isTb) (hb' : SIsTb C d b') :
    ∀ w p t, 1 ≤ w → w ≤ 8 → Ch w 6 p → (∀ q ∈ t, Ch w 6 q) → 1 ≤ t.length → t.length ≤ 8 → SDraw C (d + 1) i 3 [.int w, row p, tabD t] (· = .bl true) := by
  intro w p t h1 h2 hp ht t1 t2
  refine ⟨fun x => fill_of h rfl, fun n S j c hD hc => ?_⟩
  have hj := hD.lt
  have lp : Ln w 12 p := ⟨hp.len, fun x hx => (hp.sz x hx).mono (by decide)⟩
  obtain ⟨xs, S1, e1, x1, d1, v1, l1⟩ := hn.2 n S j c w p hD (by omega) lp h1 h2
  have eI : evI C (evCall C (n + d)) (.seq (.call nr (.cons (.var 0) (.cons (.var 2) .nil)))) [some (.ref j), some (.int w), some (row p), some (tabD t), none, none, none, none, none] S = .ok (.its xs) S1 := evI_tS (by simp [hn.1, e1])
  obtain ⟨o1, f1⟩ := judge_loop (C := C) (S := S1) (n := n) ha hb h1 h2 v1 (r0 := some (.ref j)) (r2 := some (row p)) (r3 := some (tabD t)) (r5 := none) (r6 := none) (r7 := none) (r8 := none) none
  have s1 := (s_forS (b := (.cons (.ife (.cmp .NotEq (.bi1 .repr (.call a (.cons (.var 1) (.cons (.var 4) .nil)))) (.bi1 .repr (.call b (.cons (.var 1) (.cons (.var 4) .nil))))) (.cons (.ret (.bl false)) .nil) .nil) .nil)) (t := .nm 4) eI).trans f1
  -- height, at
  obtain ⟨k', S2, e2, k0, k1, x2, d2⟩ := hr.2 n S1 t.length j (c + 1) d1 (by omega) (by omega) (by omega)
  obtain ⟨k, rfl⟩ : ∃ k : Nat, k' = k := ⟨k'.toNat, by omega⟩
  have hk : k < t.length := by omega
  have s2 : evS C (evCall C (n + d)) (.par2 7 8 (.bi1 .len (.var 3)) (.call r (.cons (.var 0) (.cons (.bi1 .len (.var 3)) .nil)))) [some (.ref j), some (.int w), some (row p), some (tabD t), o1, none, none, none, none] S1 = .ok (.nx [some (.ref j), some (.int w), some (row p), some (tabD t), o1, none, none, some (.int t.length), some (.int k)]) S2 := by
    simp [len_tab, hr.1, e2]
  -- the list
  generalize hT : S2 ++ [Cell.lst (t.map row)] ++ [Cell.dct []] = T
  have hTl : T.length = S2.length + 2 := by rw [← hT]; simp
  let ds0 : List D := [tabD t, .ref S2.length, .tup (slice (t.map row) (some 1) none), .tup (t.map row ++ slice (t.map row) none (some 1)), .non, .tup [], row p, .ref (S2.length + 1), .tup (List.replicate t.length (row p))]
  have s3 : evS C (evCall C (n + d)) (.asg (.nm 5) (.lst (.cons (.var 3) (.cons (.bi1 .list (.var 3)) (.cons (.slc (.var 3) (.so (.int 1)) .no) (.cons (.bin .Add (.var 3) (.slc (.var 3) .no (.so (.int 1)))) (.cons .non (.cons (.tup .nil) (.cons (.var 2) (.cons .dct0 (.cons (.bin .Mult (.tup (.cons (.var 2) .nil)) (.var 7)) .nil))))))))))) [some (.ref j), some (.int w), some (row p), some (tabD t), o1, none, none, some (.int t.length), some (.int k)] S2 = .ok (.nx [some (.ref j), some (.int w), some (row p), some (tabD t), o1, some (.ref T.length), none, some (.int t.length), some (.int k)]) (T ++ [.lst ds0]) := by
    have z := fun S => add_tup S (t.map row) (slice (t.map row) none (some 1)) (by
      have l2 := slice_len (ds := t.map row) (lo := none) (hi := some 1)
      rw [List.length_map] at l2
      rw [szl_eq, List.length_map]; omega)
    have el : ∀ S, evBi1 .list S (.v (tabD t)) = .ok (.t (t.map row)) S := fun S => rfl
    have mr := fun S => mul_repR S t.length (row p) (by omega)
    simp only [s_asg, e_lst, evEs, e_var, slot0, slotS, Res.bind_ok, settle_v, e_bi1, el, settle_t, e_slc, evB, e_int, e_bin, e_tup, slc_tab, e_non, e_dct0, calm, asT_nm, mr]
    have z' := fun S => (show evBin .Add S (.v (tabD t)) (.v (.tup (slice (t.map row) none (some 1)))) = _ from z S)
    simp only [z', Res.bind_ok, settle_v]
    rw [← hT]
    simp [ds0]
  generalize hT3 : T ++ [Cell.lst ds0] = T3
  have hT3l : T3.length = S2.length + 3 := by rw [← hT3]; simp [hTl]
  rw [hT3] at s3
  have hmf : T3[T.length]? = some (.lst ds0) := by rw [← hT3]; simp
  have x3 : Ext j S T3 := (x1.trans x2).trans (by
    rw [← hT3, ← hT]
    exact (Ext.push.trans Ext.push).trans Ext.push)
  have d3 : Dice T3 j (c + 2) := by
    rw [← hT3, ← hT]
    exact d2.push.push.push
  have rp : ∀ q ∈ t, Pu 100 50 (row q) := fun q hq => (pu_row (n := 0) fun y hy => ((ht q hq).sz y hy).mono (by decide)).up (by decide)
  have pp : Pu 100 50 (row p) := (pu_row (n := 0) fun y hy => (hp.sz y hy).mono (by decide)).up (by decide)
  have vs : ∀ {m : Nat} {l : List D}, (∀ y ∈ l, ∃ q ∈ t, y = row q) → Vt 100 m (.tup l) := fun {m l} hl => .tup fun y hy => by
    obtain ⟨q, hq, rfl⟩ := hl y hy
    exact .pu ((rp q hq).up (by decide))
  have sl : ∀ lo hi, ∀ y ∈ slice (t.map row) lo hi, ∃ q ∈ t, y = row q := fun lo hi y hy => by
    obtain ⟨q, hq, rfl⟩ := List.mem_map.mp (slice_mem hy)
    exact ⟨q, hq, rfl⟩
  have mt : ∀ y ∈ t.map row, ∃ q ∈ t, y = row q := fun y hy => by
    obtain ⟨q, hq, rfl⟩ := List.mem_map.mp hy
    exact ⟨q, hq, rfl⟩
  have hds0 : ∀ d ∈ ds0, Vt 100 T3.length d := fun x hx => by
    simp only [ds0, List.mem_cons, List.not_mem_nil, or_false] at hx
    rcases hx with z | z | z | z | z | z | z | z | z <;> rw [z]
    · exact vs mt
    · exact .va (.ref (by omega)) fun _ z => nomatch z
    · exact vs (sl _ _)
    · exact vs fun y hy => (List.mem_append.mp hy).elim (mt y) (sl _ _ y)
    · exact .va (.pu .non) fun _ z => nomatch z
    · exact .tup fun y hy => by simp at hy
    · exact .tup fun y hy => by
        obtain ⟨q, hq, rfl⟩ := List.mem_map.mp hy
        exact .pu ((pu_num (n := 0) ((hp.sz q hq).mono (by decide))).up (by decide))
    · exact .va (.ref (by omega)) fun _ z => nomatch z
    · exact .tup fun y hy => by
        rw [(List.mem_replicate.mp hy).2]
        exact .pu (pp.up (by decide))
  -- rows put in
  have hq := ht t[k] (List.getElem_mem hk)
  obtain ⟨ys, S4, e4, x4, d4, v4, l4⟩ := hn.2 n T3 j (c + 2) w t[k] d3 (by omega) ⟨hq.len, fun x hx => (hq.sz x hx).mono (by decide)⟩ h1 h2
  have eI4 : evI C (evCall C (n + d)) (.seq (.call nr (.cons (.var 0) (.cons (.idx (.var 3) (.var 8)) .nil)))) [some (.ref j), some (.int w), some (row p), some (tabD t), o1, some (.ref T.length), none, some (.int t.length), some (.int k)] T3 = .ok (.its ys) S4 := evI_tS (by simp [hn.1, ix_tab T3 hk, e4])
  have hjT : j < T.length := by have := d2.lt; omega
  have hS4 : S4[T.length]? = some (.lst ds0) := by rw [x4.at_ T.length (by omega) (by omega)]; exact hmf
  have h34 := x4.len
  obtain ⟨ds5, o5, f5, v5, l5⟩ := rows_loop (C := C) (call := evCall C (n + d)) (j := j) (k := k) (mf := T.length) (p := p) (t := t) (xs := ys) (S3 := S4) (ds0 := ds0) (W := some (.int w)) (v4 := o1) (hh := .int t.length) hS4 (fun r hr y hy => ((ht r hr).sz y hy).mono (by decide)) t2 (fun d hd => (hds0 d hd).up h34) (by simp [ds0]) (by omega) v4 none
  have s4 := (s_forS (b := (.cons (.expr (.met .append (.var 5) (.bin .Add (.bin .Add (.slc (.var 3) .no (.so (.var 8))) (.tup (.cons (.var 6) .nil))) (.slc (.var 3) (.so (.bin .Add (.var 8) (.int 1))) .no)))) .nil)) (t := .nm 6) eI4).trans f5
  have hT4 : T.length < S4.length := by omega
  generalize hS5 : S4.set T.length (.lst ds5) = S5 at *
  have hS5l : S5.length = S4.length := by rw [← hS5, List.length_set]
  have hS5c : S5[T.length]? = some (.lst ds5) := by rw [← hS5]; exact set_at hT4
  obtain ⟨o6, f6⟩ := judge_loopT (C := C) (S := S5) (n := n) (mf := T.length) ha' hb' h1 h2 t1 t2 hS5c (fun x hx => by rw [hS5l]; exact v5 x hx) (r0 := some (.ref j)) (r2 := some (row p)) (r3 := some (tabD t)) (r5 := some (.ref T.length)) (r6 := o5) (r8 := some (.int k)) o1
  have s5 := (s_live (b := (.cons (.ife (.cmp .NotEq (.bi1 .repr (.call a' (.cons (.var 7) (.cons (.var 1) (.cons (.var 4) .nil))))) (.bi1 .repr (.call b' (.cons (.var 7) (.cons (.var 1) (.cons (.var 4) .nil)))))) (.cons (.ret (.bl false)) .nil) .nil) .nil)) (t := .nm 4) (C := C) (call := evCall C (n + d)) (e := .var 5) (ρ := [some (.ref j), some (.int w), some (row p), some (tabD t), o1, some (.ref T.length), o5, some (.int t.length), some (.int k)]) (by simp) hS5c).trans f6
  have x5 : Ext j S S5 := by
    have xa := x3.trans x4
    refine ⟨by rw [hS5l]; exact xa.len, fun i hi hn => ?_⟩
    have := (x1.trans x2).len
    rw [← hS5, List.getElem?_set_ne (by omega)]
    exact xa.at_ i hi hn
  have d5 : Dice S5 j (c + 3) := by
    rw [← hS5]
    exact d4.ext (S' := S4) (by omega)
  obtain ⟨S6, e6, x6, d6⟩ := ev_dice (m := n + d) (n := j) (c := c + 3) (S' := S5) (d := .bl true) (ds := [.ref j, .int w, row p, tabD t]) h rfl (fun _ z => nomatch z) hj (by
    show evSs C (evCall C (n + d)) (t_law_judged_right nr a b r a' b') [some (.ref j), some (.int w), some (row p), some (tabD t), none, none, none, none, none] S = _
    unfold t_law_judged_right
    rw [ss_nx s1, ss_nx s2, ss_nx s3, ss_nx s4, ss_nx s5]
    simp) x5 d5
  exact ⟨_, S6, e6, rfl, x6, d6⟩
end
end Q
end
section
-- M24
set_option Elab.async false
set_option linter.all false
set_option maxRecDepth 100000
namespace Q
/-! ### sums, by their heads -/
theorem foldl_add (l : List Rat) : ∀ b : Rat, l.foldl (· + ·) b = b + sumL l := by
  unfold sumL
  induction l with
  | nil => intro b; rw [List.foldl_nil, List.foldl_nil, Rat.add_zero]
  | cons x r ih =>
    intro b
    rw [List.foldl_cons, List.foldl_cons, ih (b + x), ih (0 + x), Rat.zero_add, Rat.add_assoc]
theorem sumL_nil : sumL [] = 0 := rfl
theorem sumL_cons (x : Rat) (l : List Rat) : sumL (x :: l) = x + sumL l := by
  show (x :: l).foldl (· + ·) 0 = _
  rw [List.foldl_cons, foldl_add, Rat.zero_add]
theorem sumL_mul (s : Rat) : ∀ l : List Rat, sumL (l.map (s * ·)) = s * sumL l
  | [] => by rw [List.map_nil, sumL_nil, Rat.mul_zero]
  | x :: l => by rw [List.map_cons, sumL_cons, sumL_cons, sumL_mul s l, Rat.mul_add]
theorem sumL_zip : ∀ {p q : List Rat}, p.length = q.length → sumL (List.zipWith (· + ·) p q) = sumL p + sumL q
  | [], [], _ => by
    show sumL [] = sumL [] + sumL []
    rw [sumL_nil, Rat.add_zero]
  | x :: p, y :: q, h => by
    rw [List.zipWith_cons_cons, sumL_cons, sumL_cons, sumL_cons, sumL_zip (by simpa using h)]
    grind
  | [], _ :: _, h => by cases h
  | _ :: _, [], h => by cases h
theorem sumL_pos : ∀ {p : List Rat}, (∀ x ∈ p, 0 ≤ x) → 0 ≤ sumL p
  | [], _ => by rw [sumL_nil]; decide
  | x :: p, h => by
    rw [sumL_cons]
    have h1 := h x List.mem_cons_self
    have h2 := sumL_pos fun y hy => h y (List.mem_cons_of_mem _ hy)
    grind
theorem dotL_nil (q : List Rat) : dotL [] q = 0 := by unfold dotL; rw [List.zipWith_nil_left]; rfl
theorem dotL_cons (x y : Rat) (p q : List Rat) : dotL (x :: p) (y :: q) = x * y + dotL p q := by
  unfold dotL
  rw [List.zipWith_cons_cons, sumL_cons]
/-! ### between -/
theorem betw_len {s : Rat} {p q : List Rat} {w : Nat} (h : p.length = w) (g : q.length = w) : (betw s p q).length = w := by
  unfold betw
  rw [List.length_zipWith, List.length_map, List.length_map]
  omega
theorem betw_nil (s : Rat) : betw s [] [] = [] := rfl
theorem betw_cons (s x y : Rat) (p q : List Rat) : betw s (x :: p) (y :: q) = (s * x + (1 - s) * y) :: betw s p q := rfl
theorem dot_betw (s : Rat) : ∀ {p q l : List Rat}, p.length = q.length → p.length = l.length → dotL (betw s p q) l = s * dotL p l + (1 - s) * dotL q l
  | [], [], l, _, _ => by
    rw [betw_nil, dotL_nil]
    grind
  | x :: p, y :: q, z :: l, h, g => by
    rw [betw_cons, dotL_cons, dotL_cons, dotL_cons, dot_betw s (by simpa using h) (by simpa using g)]
    grind
  | _ :: _, _ :: _, [], _, g => by cases g
  | [], _ :: _, _, h, _ => by cases h
  | _ :: _, [], _, h, _ => by cases h
theorem betw_ch {w k : Nat} {s : Rat} {p q : List Rat} (hs : Sz k s) (h0 : 0 ≤ s) (h1 : s ≤ 1) (hp : Ch w k p) (hq : Ch w k q) : Ch w (4 * k + 4) (betw s p q) := by
  refine ⟨betw_len hp.len hq.len, fun x hx => ?_, fun x hx => ?_, ?_⟩
  · obtain ⟨a, ha, b, hb, rfl⟩ := mem_zipWith hx
    have e1 := mem_map_sz hs hp.sz a ha
    have e2 := mem_map_sz (sz_sub sz_one hs) hq.sz b hb
    exact (sz_add e1 e2).mono (by omega)
  · obtain ⟨a, ha, b, hb, rfl⟩ := mem_zipWith hx
    obtain ⟨u, hu, rfl⟩ := List.mem_map.mp ha
    obtain ⟨v, hv, rfl⟩ := List.mem_map.mp hb
    have e1 := Rat.mul_nonneg h0 (hp.pos u hu)
    have e2 : 0 ≤ (1 - s) * v := Rat.mul_nonneg (by grind) (hq.pos v hv)
    show 0 ≤ s * u + (1 - s) * v
    grind
  · unfold betw
    rw [sumL_zip (by rw [List.length_map, List.length_map, hp.len, hq.len]), sumL_mul, sumL_mul, hp.sum, hq.sum]
    grind
/-! ### what a table leads to, place by place -/
def at0L (r : List Rat) (j : Nat) : Rat := r.getD j 0
theorem mix_at {w j : Nat} {f r : List Rat} {x : Rat} (h : f.length = w) (g : r.length = w) (hj : j < w) : at0L (mix f x r) j = at0L f j + x * at0L r j := by
  unfold at0L mix
  rw [List.getD_eq_getElem?_getD, List.getD_eq_getElem?_getD, List.getD_eq_getElem?_getD]
  have h1 : j < f.length := by omega
  have h2 : j < r.length := by omega
  have h3 : j < (List.zipWith (· + ·) f (r.map (x * ·))).length := by rw [List.length_zipWith, List.length_map]; omega
  rw [List.getElem?_eq_getElem h1, List.getElem?_eq_getElem h2, List.getElem?_eq_getElem h3]
  simp
theorem led_at {w j : Nat} (hj : j < w) : ∀ (t : List (Rat × List Rat)), (∀ x ∈ t, x.2.length = w) → at0L (ledL w t) j = sumL (t.map fun x => x.1 * at0L x.2 j) := fun t => by
  suffices ∀ (t : List (Rat × List Rat)) (f : List Rat), f.length = w → (∀ x ∈ t, x.2.length = w) → at0L (t.foldl (fun f x => mix f x.1 x.2) f) j = at0L f j + sumL (t.map fun x => x.1 * at0L x.2 j) by
    intro h
    have := this t (List.replicate w 0) (by simp) h
    unfold ledL
    rw [this]
    have z : at0L (List.replicate w 0) j = 0 := by
      unfold at0L
      rw [List.getD_eq_getElem?_getD, List.getElem?_replicate]
      split <;> rfl
    rw [z, Rat.zero_add]
  intro t
  induction t with
  | nil => intro f _ _; rw [List.foldl_nil, List.map_nil, sumL_nil, Rat.add_zero]
  | cons x r ih =>
    intro f hf h
    have hx := h x List.mem_cons_self
    rw [List.foldl_cons, ih (mix f x.1 x.2) (mix_len hf hx) fun y hy => h y (List.mem_cons_of_mem _ hy), mix_at hf hx hj, List.map_cons, sumL_cons, Rat.add_assoc]
theorem ext_at {w : Nat} {p q : List Rat} (h : p.length = w) (g : q.length = w) (e : ∀ j, j < w → at0L p j = at0L q j) : p = q := by
  apply List.ext_getElem (by omega)
  intro j h1 h2
  have := e j (by omega)
  unfold at0L at this
  rw [List.getD_eq_getElem?_getD, List.getD_eq_getElem?_getD, List.getElem?_eq_getElem h1, List.getElem?_eq_getElem h2] at this
  exact this
end Q
end
section
-- M25
set_option Elab.async false
set_option linter.all false
set_option maxRecDepth 100000
namespace Q
theorem dot_zero (w : Nat) : ∀ l : List Rat, dotL (List.replicate w 0) l = 0 := by
  induction w with
  | zero => intro l; exact dotL_nil l
  | succ n ih =>
    intro l
    cases l with
    | nil => unfold dotL; rw [List.zipWith_nil_right]; rfl
    | cons x l => rw [List.replicate_succ, dotL_cons, ih, Rat.zero_mul, Rat.zero_add]
theorem dot_mix (x : Rat) : ∀ {f r l : List Rat}, f.length = r.length → r.length = l.length → dotL (mix f x r) l = dotL f l + x * dotL r l
  | [], [], l, _, _ => by
    show dotL [] l = dotL [] l + x * dotL [] l
    rw [dotL_nil, Rat.mul_zero, Rat.add_zero]
  | a :: f, b :: r, c :: l, h, g => by
    show dotL ((a + x * b) :: mix f x r) (c :: l) = _
    rw [dotL_cons, dotL_cons, dotL_cons, dot_mix x (by simpa using h) (by simpa using g)]
    grind
  | _ :: _, _ :: _, [], _, g => by cases g
  | [], _ :: _, _, h, _ => by cases h
  | _ :: _, [], _, h, _ => by cases h
theorem sum_mix (x : Rat) {f r : List Rat} (h : f.length = r.length) : sumL (mix f x r) = sumL f + x * sumL r := by
  unfold mix
  rw [sumL_zip (by rw [List.length_map]; exact h), sumL_mul]
theorem sum_zero (w : Nat) : sumL (List.replicate w 0) = 0 := by
  induction w with
  | zero => rfl
  | succ n ih => rw [List.replicate_succ, sumL_cons, ih, Rat.add_zero]
theorem led_fold {w : Nat} {F : List Rat → Rat} (hF : ∀ f x r, f.length = w → r.length = w → F (mix f x r) = F f + x * F r) (h0 : F (List.replicate w 0) = 0) (t : List (Rat × List Rat)) (h : ∀ x ∈ t, x.2.length = w) : F (ledL w t) = sumL (t.map fun x => x.1 * F x.2) := by
  suffices ∀ (t : List (Rat × List Rat)) (f : List Rat), f.length = w → (∀ x ∈ t, x.2.length = w) → F (t.foldl (fun f x => mix f x.1 x.2) f) = F f + sumL (t.map fun x => x.1 * F x.2) by
    have e := this t (List.replicate w 0) (by simp) h
    unfold ledL
    rw [e, h0, Rat.zero_add]
  intro t
  induction t with
  | nil => intro f _ _; rw [List.foldl_nil, List.map_nil, sumL_nil, Rat.add_zero]
  | cons x r ih =>
    intro f hf h
    have hx := h x List.mem_cons_self
    rw [List.foldl_cons, ih (mix f x.1 x.2) (mix_len hf hx) fun y hy => h y (List.mem_cons_of_mem _ hy), hF f x.1 x.2 hf hx, List.map_cons, sumL_cons, Rat.add_assoc]
theorem zip_dot {α : Type} (F : α → Rat) : ∀ (p : List Rat) (t : List α), sumL ((p.zip t).map fun x => x.1 * F x.2) = dotL p (t.map F)
  | [], _ => by rw [List.zip_nil_left, dotL_nil]; rfl
  | _ :: _, [] => by
    rw [List.zip_nil_right]
    unfold dotL
    rw [List.map_nil, List.map_nil, List.zipWith_nil_right]
  | a :: p, b :: t => by
    rw [List.zip_cons_cons, List.map_cons, sumL_cons, List.map_cons, dotL_cons, zip_dot F p t]
theorem led_lin {w : Nat} {F : List Rat → Rat} (hF : ∀ f x r, f.length = w → r.length = w → F (mix f x r) = F f + x * F r) (h0 : F (List.replicate w 0) = 0) (p : List Rat) {t : List (List Rat)} (h : ∀ r ∈ t, r.length = w) : F (ledT w p t) = dotL p (t.map F) := by
  unfold ledT
  rw [led_fold hF h0 _ fun x hx => h x.2 (List.of_mem_zip hx).2, zip_dot]
theorem at_zero (w j : Nat) : at0L (List.replicate w 0) j = 0 := by
  unfold at0L
  rw [List.getD_eq_getElem?_getD, List.getElem?_replicate]
  split <;> rfl
theorem ledT_at {w j : Nat} (hj : j < w) (p : List Rat) {t : List (List Rat)} (h : ∀ r ∈ t, r.length = w) : at0L (ledT w p t) j = dotL p (t.map fun r => at0L r j) :=
  led_lin (F := fun r => at0L r j) (fun f x r a b => mix_at a b hj) (at_zero w j) p h
theorem ledT_len {w : Nat} (p : List Rat) {t : List (List Rat)} (h : ∀ r ∈ t, r.length = w) : (ledT w p t).length = w := led_len _ fun x hx => h x.2 (List.of_mem_zip hx).2
theorem betw_at {w j : Nat} {s : Rat} {p q : List Rat} (h : p.length = w) (g : q.length = w) (hj : j < w) : at0L (betw s p q) j = s * at0L p j + (1 - s) * at0L q j := by
  unfold at0L betw
  rw [List.getD_eq_getElem?_getD, List.getD_eq_getElem?_getD, List.getD_eq_getElem?_getD]
  have h1 : j < p.length := by omega
  have h2 : j < q.length := by omega
  have h3 : j < (List.zipWith (· + ·) (p.map (s * ·)) (q.map ((1 - s) * ·))).length := by rw [List.length_zipWith, List.length_map, List.length_map]; omega
  rw [List.getElem?_eq_getElem h1, List.getElem?_eq_getElem h2, List.getElem?_eq_getElem h3]
  simp
theorem led_betw {w : Nat} {s : Rat} {p q : List Rat} {t : List (List Rat)} (h : ∀ r ∈ t, r.length = w) (hp : p.length = t.length) (hq : q.length = t.length) : ledT w (betw s p q) t = betw s (ledT w p t) (ledT w q t) := by
  have l1 := ledT_len p h
  have l2 := ledT_len q h
  refine ext_at (ledT_len _ h) (betw_len l1 l2) fun j hj => ?_
  rw [ledT_at hj _ h, betw_at l1 l2 hj, ledT_at hj _ h, ledT_at hj _ h, dot_betw s (by omega) (by rw [List.length_map]; exact hp)]
theorem led_assoc {w m : Nat} {p : List Rat} {s t : List (List Rat)} (hs : ∀ r ∈ s, r.length = m) (ht : ∀ r ∈ t, r.length = w) (hm : t.length = m) : ledT w p (s.map fun r => ledT w r t) = ledT w (ledT m p s) t := by
  have hl : ∀ r ∈ s.map fun r => ledT w r t, r.length = w := fun r hr => by
    obtain ⟨x, _, rfl⟩ := List.mem_map.mp hr
    exact ledT_len x ht
  refine ext_at (ledT_len _ hl) (ledT_len _ ht) fun j hj => ?_
  rw [ledT_at hj _ hl, ledT_at hj _ ht, List.map_map]
  have e := led_lin (w := m) (F := fun r => dotL r (t.map fun r => at0L r j)) (fun f x r a b => dot_mix x (by omega) (by rw [List.length_map]; omega)) (dot_zero m _) p hs
  rw [e]
  congr 1
  apply List.map_congr_left
  intro r _
  exact ledT_at hj r ht
theorem dot_one : ∀ {p : List Rat} {l : List Rat}, p.length = l.length → (∀ y ∈ l, y = 1) → dotL p l = sumL p
  | [], _, _, _ => by rw [dotL_nil, sumL_nil]
  | a :: p, b :: l, h, g => by
    rw [dotL_cons, sumL_cons, g b List.mem_cons_self, dot_one (by simpa using h) fun y hy => g y (List.mem_cons_of_mem _ hy), Rat.mul_one]
  | _ :: _, [], h, _ => by cases h
theorem dot_pos : ∀ {p l : List Rat}, (∀ x ∈ p, 0 ≤ x) → (∀ y ∈ l, 0 ≤ y) → 0 ≤ dotL p l := fun {p l} h g => by
  refine sumL_pos fun z hz => ?_
  obtain ⟨a, ha, b, hb, e⟩ := mem_zipWith hz
  rw [e]
  exact Rat.mul_nonneg (h a ha) (g b hb)
theorem led_ch {h w k : Nat} {p : List Rat} {t : List (List Rat)} (hp : Ch h k p) (ht : ChT h w k t) : Ch w (h * (k + k + 1) + 1) (ledT w p t) := by
  have hl : ∀ r ∈ t, r.length = w := fun r hr => (ht.ch r hr).len
  refine ⟨ledT_len p hl, fun x hx => ?_, fun x hx => ?_, ?_⟩
  · have := led_sz (k := k) (l := k) (w := w) (p.zip t) (fun y hy => ⟨hp.sz _ (List.of_mem_zip hy).1, (ht.ch _ (List.of_mem_zip hy).2).sz⟩) x hx
    refine this.mono ?_
    have e : (p.zip t).length ≤ h := by rw [List.length_zip, hp.len]; omega
    have := Nat.mul_le_mul_right (k + k + 1) e
    omega
  · obtain ⟨j, hj, e⟩ := List.mem_iff_getElem.mp hx
    have hjw : j < w := by rw [ledT_len p hl] at hj; exact hj
    have e2 : x = at0L (ledT w p t) j := by
      unfold at0L
      rw [List.getD_eq_getElem?_getD, List.getElem?_eq_getElem hj, ← e]
      rfl
    rw [e2, ledT_at hjw p hl]
    refine dot_pos hp.pos fun y hy => ?_
    obtain ⟨r, hr, rfl⟩ := List.mem_map.mp hy
    have hjr : j < r.length := by rw [hl r hr]; exact hjw
    have : at0L r j = r[j] := by
      unfold at0L
      rw [List.getD_eq_getElem?_getD, List.getElem?_eq_getElem hjr]
      rfl
    rw [this]
    exact (ht.ch r hr).pos _ (List.getElem_mem hjr)
  · rw [led_lin (F := sumL) (fun f x r a b => sum_mix x (by omega)) (sum_zero w) p hl, dot_one (by rw [List.length_map, hp.len, ht.len]) fun y hy => ?_, hp.sum]
    obtain ⟨r, hr, rfl⟩ := List.mem_map.mp hy
    exact (ht.ch r hr).sum
end Q
end
section
-- M26
set_option Elab.async false
set_option linter.all false
set_option maxRecDepth 100000
namespace Q
open PySem (Str Operator CmpOp BoolOp PyData Paired)
section
variable {C : Q.Ctx} {call : Nat → List D → Store → Res R} {S : Store}
theorem ChT.up {h w k l : Nat} {t : List (List Rat)} (x : ChT h w k t) (e : k ≤ l) : ChT h w l t := ⟨x.len, fun r hr => (x.ch r hr).up e⟩
theorem rows_of {w k : Nat} : ∀ {xs : List D}, (∀ x ∈ xs, ∃ q, x = row q ∧ Ch w k q) → ∃ t : List (List Rat), xs = t.map row ∧ ∀ q ∈ t, Ch w k q
  | [], _ => ⟨[], rfl, fun q h => by simp at h⟩
  | x :: xs, h => by
    obtain ⟨q, e, z⟩ := h x List.mem_cons_self
    obtain ⟨r, e2, z2⟩ := rows_of fun y hy => h y (List.mem_cons_of_mem _ hy)
    refine ⟨q :: r, by rw [e, e2, List.map_cons], fun y hy => ?_⟩
    rcases List.mem_cons.mp hy with z3 | z3
    · rw [z3]; exact z
    · exact z2 y z3
theorem evI_rng1S {e : E} {ρ : Env} {w : Nat} {S S' : Store} (h : evE C call e ρ S = .ok (.v (.int w)) S') (hw : w ≤ 8) : evI C call (.rng1 e) ρ S = .ok (.its ((List.range w).map fun j : Nat => D.int j)) S' := by
  rw [evI, h]
  show (if rngOk (w : Int) = true then _ else _) = _
  rw [if_pos]
  · unfold Q.range
    rw [Int.sub_zero, Int.toNat_natCast]
    simp
  · unfold rngOk
    simp
    omega
/-- a drawn table -/
theorem draw_table {a d n i j c w : Nat} {e : E} {ρ : Env} {h k0 : Nat} {x y : Nat} (ha : SDraw C d a 9 [.int w] (fun x => ∃ r, x = row r ∧ Ch w 6 r)) {S0 : Store} (hD : Dice S j c) (hc : c + 100 ≤ 1000000) (he : evE C (evCall C (n + d)) e ρ S0 = .ok (.v (.int h)) S) (hh : h ≤ 8)
    (hρ : ∀ z, (ρ.set i (some z))[0]? = some (some (.ref j)) ∧ (ρ.set i (some z))[y]? = some (some (.int w))) (hw0 : ∀ z, (Q.wipe ρ [i]).set i (some z) = ρ.set i (some z)) :
    ∃ t S', evE C (evCall C (n + d)) (.bi1 .tuple (.lc (.call a (.cons (.var 0) (.cons (.var y) .nil))) (.nm i) (.rng1 e) .no k0)) ρ S0 = .ok (.v (tabD t)) S' ∧ ChT h w 6 t ∧ Ext j S S' ∧ Dice S' j (c + 72) := by
  obtain ⟨xs, S1, e1, l1, p1, x1, d1⟩ := lc_state (C := C) (call := evCall C (n + d)) (S := S) (S0 := S0) (elt := .call a (.cons (.var 0) (.cons (.var y) .nil))) (tg := .nm i) (it := .rng1 e) (k := k0) (ρ := ρ) (l := List.range h) (f := fun j : Nat => D.int j)
    (fun x => ∃ q, x = row q ∧ Ch w 6 q) (fun i S1 => Ext j S S1 ∧ Dice S1 j (c + 9 * i)) (evI_rng1S he hh) ⟨.refl, hD⟩ fun u hu i1 S1 hi ⟨x1, d1⟩ => by
    rw [List.length_range] at hi
    obtain ⟨v, S2, e2, p2, x2, d2⟩ := ha.run n S1 j (c + 9 * i1) d1 (by omega)
    refine ⟨_, v, S2, asT_nm, ?_, p2, x1.trans x2, d2.mono (by omega)⟩
    have es : (T.nm i).slots = [i] := by rw [T.slots]
    rw [es, hw0]
    obtain ⟨h1, h2⟩ := hρ (.int u)
    simp [h1, h2, ha.fill, e2]
  rw [List.length_range] at l1 d1
  obtain ⟨t, rfl, ht⟩ := rows_of p1
  refine ⟨t, S1, ?_, ⟨by rw [List.length_map] at l1; exact l1, ht⟩, x1, d1.mono (by omega)⟩
  rw [e_bi1, e1]
  rfl
/-- an int that was rolled, from one on -/
theorem roll_one {r d n j c : Nat} {ρ : Env} (hr : SRoll C d r) (hD : Dice S j c) (hc : c ≤ 1000000) (h0 : ρ[0]? = some (some (.ref j))) (m : Nat) (hm : 0 < m) (hm2 : m < 1000) :
    ∃ h : Nat, ∃ S', evE C (evCall C (n + d)) (.bin .Add (.int 1) (.call r (.cons (.var 0) (.cons (.int m) .nil)))) ρ S = .ok (.v (.int h)) S' ∧ 1 ≤ h ∧ h ≤ m ∧ Ext j S S' ∧ Dice S' j (c + 1) := by
  obtain ⟨a, S1, e1, a0, a1, x1, d1⟩ := hr.2 n S m j c hD (by omega) (by omega) hc
  refine ⟨(1 + a).toNat, S1, ?_, by omega, by omega, x1, d1⟩
  have e2 : (((1 + a).toNat : Nat) : Int) = 1 + a := by omega
  simp [h0, hr.1, e1]
  omega
end
end Q
end
section
-- M27
set_option Elab.async false
set_option linter.all false
set_option maxRecDepth 100000
namespace Q
open PySem (Str Operator CmpOp BoolOp PyData Paired)
def SBeh (C : Q.Ctx) (d i : Nat) : Prop := ∀ g w k t p, 1 ≤ g → g ≤ 8 → 1 ≤ w → w ≤ 8 → ChT g w k t → Ch g k p → k ≤ 100 → Sp C d i [.int g, .int w, tabD t, row p] (.v (row (ledT w p t)))
def SBehT (C : Q.Ctx) (d i : Nat) : Prop := ∀ g m w k s t, 1 ≤ g → g ≤ 8 → 1 ≤ m → m ≤ 8 → 1 ≤ w → w ≤ 8 → ChT g m k s → ChT m w k t → k ≤ 100 → Sp C d i [.int g, .int m, .int w, tabD s, tabD t] (.v (tabD (s.map fun p => ledT w p t)))
section
variable {C : Q.Ctx} {call : Nat → List D → Store → Res R} {S : Store}
theorem sz_share {a b : Int} (h0 : 0 ≤ a) (h1 : a ≤ 8) (hb : 0 < b) (h2 : b ≤ 8) : Sz 4 (Rat.divInt a b) := sz_div (by unfold Lt; omega) (by unfold Lt; omega) (by omega)
theorem div_le_one {a b : Int} (h : a ≤ b) (hb : 0 < b) : Rat.divInt a b ≤ 1 := by
  have e : Rat.divInt b b = 1 := Rat.divInt_self' (by omega)
  have e2 : Rat.divInt b b = Rat.divInt a b + Rat.divInt (b - a) b := by
    rw [add_same (by omega)]
    congr 1
    omega
  have := div_nonneg (a := b - a) (t := b) (by omega) hb
  rw [e] at e2
  grind
theorem tables_spec (B : Big C) {i r sc f bt fo ic lb tb d : Nat} (h : C.fns[i]? = some (F_law_tables_right r sc f bt fo ic lb tb)) (hr : SRoll C (d + 1) r) (hs : ∀ w : Nat, 1 ≤ w → w ≤ 8 → SDraw C (d + 1) sc 9 [.int w] (fun x => ∃ r, x = row r ∧ Ch w 6 r)) (hf : C.fns[f]? = some fFr) (hbt : SBeh C (d + 1) bt) (hfo : SLed C (d + 1) fo)
    (hic : SJw C (d + 1) ic (fun w S x => Va 100 S.length x ∧ 1 ≤ w ∧ w ≤ 8) isCh) (hlb : SBetw C (d + 1) lb) (htb : SBehT C (d + 1) tb) : ∀ w : Nat, 1 ≤ w → w ≤ 8 → SDraw C (d + 2) i 200 [.int w] (· = .bl true) := by
  intro w w1 w2
  refine ⟨fun x => fill_of h rfl, fun n S j c hD hc => ?_⟩
  have hj := hD.lt
  let N := List.replicate 10 (none : Option D)
  obtain ⟨H, S1, e1, H1, H2, x1, d1⟩ := roll_one (C := C) (S := S) (d := d + 1) (n := n) (ρ := [some (.ref j), some (.int w), none, none, none, none, none, none, none, none, none, none, none, none]) hr hD (by omega) rfl 4 (by decide) (by decide)
  obtain ⟨M, S2, e2, M1, M2, x2, d2⟩ := roll_one (C := C) (S := S1) (d := d + 1) (n := n) (ρ := [some (.ref j), some (.int w), none, none, none, none, none, none, none, none, none, none, none, none]) hr d1 (by omega) rfl 4 (by decide) (by decide)
  have s1 : evS C (evCall C (n + (d + 1))) (.asg (.tp (.cons (.nm 7) (.cons (.nm 8) .nil))) (.tup (.cons (.bin .Add (.int 1) (.call r (.cons (.var 0) (.cons (.int 4) .nil)))) (.cons (.bin .Add (.int 1) (.call r (.cons (.var 0) (.cons (.int 4) .nil)))) .nil)))) [some (.ref j), some (.int w), none, none, none, none, none, none, none, none, none, none, none, none] S =
      .ok (.nx [some (.ref j), some (.int w), none, none, none, none, none, some (.int H), some (.int M), none, none, none, none, none]) S2 := by
    have e1' : evE C (evCall C (n + (d + 1))) (.bin .Add (.int 1) (.call r (.cons (.var 0) (.cons (.int 4) .nil)))) _ S = _ := e1
    have e2' : evE C (evCall C (n + (d + 1))) (.bin .Add (.int 1) (.call r (.cons (.var 0) (.cons (.int 4) .nil)))) _ S1 = _ := e2
    simp only [s_asg, e_tup, evEs, e1', e2', Res.bind_ok, settle_v, asT_two, calm]
    rfl
  obtain ⟨s, S3, e3, t3, x3, d3⟩ := draw_table (C := C) (S := S2) (S0 := S2) (d := d + 1) (n := n) (i := 12) (y := 8) (e := .var 7) (ρ := [some (.ref j), some (.int w), none, none, none, none, none, some (.int H), some (.int M), none, none, none, none, none]) (h := H) (k0 := 0) (x := 0) (hs M M1 (by omega)) d2 (by omega) (by simp) (by omega) (fun z => ⟨rfl, rfl⟩) (fun z => rfl)
  have s2 : evS C (evCall C (n + (d + 1))) (.asg (.nm 2) (.bi1 .tuple (.lc (.call sc (.cons (.var 0) (.cons (.var 8) .nil))) (.nm 12) (.rng1 (.var 7)) .no 0))) [some (.ref j), some (.int w), none, none, none, none, none, some (.int H), some (.int M), none, none, none, none, none] S2 =
      .ok (.nx [some (.ref j), some (.int w), some (tabD s), none, none, none, none, some (.int H), some (.int M), none, none, none, none, none]) S3 := by
    simp only [s_asg, e3, Res.bind_ok, settle_v, asT_nm, calm]
    rfl
  obtain ⟨t, S4, e4, t4, x4, d4⟩ := draw_table (C := C) (S := S3) (S0 := S3) (d := d + 1) (n := n) (i := 12) (y := 1) (e := .var 8) (ρ := [some (.ref j), some (.int w), some (tabD s), none, none, none, none, some (.int H), some (.int M), none, none, none, none, none]) (h := M) (k0 := 1) (x := 0) (hs w w1 w2) d3 (by omega) (by simp) (by omega) (fun z => ⟨rfl, rfl⟩) (fun z => rfl)
  have s3 : evS C (evCall C (n + (d + 1))) (.asg (.nm 3) (.bi1 .tuple (.lc (.call sc (.cons (.var 0) (.cons (.var 1) .nil))) (.nm 12) (.rng1 (.var 8)) .no 1))) [some (.ref j), some (.int w), some (tabD s), none, none, none, none, some (.int H), some (.int M), none, none, none, none, none] S3 =
      .ok (.nx [some (.ref j), some (.int w), some (tabD s), some (tabD t), none, none, none, some (.int H), some (.int M), none, none, none, none, none]) S4 := by
    simp only [s_asg, e4, Res.bind_ok, settle_v, asT_nm, calm]
    rfl
  have hfill := (hs H H1 (by omega)).fill
  obtain ⟨_, S5, e5, ⟨p, rfl, hp⟩, x5, d5⟩ := (hs H H1 (by omega)).run n S4 j _ d4 (by omega)
  obtain ⟨_, S6, e6, ⟨q, rfl, hq⟩, x6, d6⟩ := (hs H H1 (by omega)).run n S5 j _ d5 (by omega)
  obtain ⟨a, S7, e7, a0, a1, x7, d7⟩ := hr.2 n S6 6 j _ d6 (by decide) (by decide) (by omega)
  have ff := fill_of (C := C) (ds := [.int a, .int 5]) hf rfl
  have e8 : evCall C (n + (d + 1)) f [.int a, .int 5] S7 = _ := fr_spec (n := n + d) (S := S7) B hf a 5 (by decide) ((show Lt 4 a by unfold Lt; omega).mono (by decide)) ((show Lt 4 5 by unfold Lt; decide).mono (by decide))
  have zs := sz_share a0 (by omega) (show (0 : Int) < 5 by decide) (by decide)
  have z0 := div_nonneg a0 (show (0 : Int) < 5 by decide)
  have z1 := div_le_one (show a ≤ 5 by omega) (show (0 : Int) < 5 by decide)
  generalize hσ : Rat.divInt a 5 = σ at *
  have s4 : evS C (evCall C (n + (d + 1))) (.par3 9 10 11 (.call sc (.cons (.var 0) (.cons (.var 7) .nil))) (.call sc (.cons (.var 0) (.cons (.var 7) .nil))) (.call f (.cons (.call r (.cons (.var 0) (.cons (.int 6) .nil))) (.cons (.int 5) .nil)))) [some (.ref j), some (.int w), some (tabD s), some (tabD t), none, none, none, some (.int H), some (.int M), none, none, none, none, none] S4 =
      .ok (.nx [some (.ref j), some (.int w), some (tabD s), some (tabD t), none, none, none, some (.int H), some (.int M), some (row p), some (row q), some (num σ), none, none]) S7 := by
    simp only [s_par3, e_call, evEs, e_var, slot0, slotS, e_int, Res.bind_ok, settle_v, hfill, opt_some, e5, e6, hr.1, e7, ff, e8]
    rfl
  have lp : p.length = s.length := by rw [hp.len, t3.len]
  have lq : q.length = s.length := by rw [hq.len, t3.len]
  have ls : ∀ r ∈ s, r.length = M := fun r hr => (t3.ch r hr).len
  have lt : ∀ r ∈ t, r.length = w := fun r hr => (t4.ch r hr).len
  have ct := led_ch hp t3
  have cf := led_ch hq t3
  have kH : H * (6 + 6 + 1) + 1 ≤ 60 := by
    have := Nat.mul_le_mul_right 13 H2
    omega
  have b1 := hbt H M 6 s p H1 (by omega) M1 (by omega) t3 hp (by decide)
  have b2 := hbt H M 6 s q H1 (by omega) M1 (by omega) t3 hq (by decide)
  have g1 := hfo 6 6 M p s hp.sz t3.tb (by omega) (by
    rw [hp.len]
    have := Nat.mul_le_mul_right 13 (show H + 1 ≤ 5 by omega)
    omega)
  have s5 : evS C (evCall C (n + (d + 1))) (.asg (.nm 4) (.call bt (.cons (.var 7) (.cons (.var 8) (.cons (.var 2) (.cons (.var 9) .nil)))))) [some (.ref j), some (.int w), some (tabD s), some (tabD t), none, none, none, some (.int H), some (.int M), some (row p), some (row q), some (num σ), none, none] S7 =
      .ok (.nx [some (.ref j), some (.int w), some (tabD s), some (tabD t), some (row (ledT M p s)), none, none, some (.int H), some (.int M), some (row p), some (row q), some (num σ), none, none]) S7 := by
    simp only [s_asg, e_call, evEs, e_var, slot0, slotS, Res.bind_ok, settle_v, b1.fill, b1.run, opt_some, asT_nm, calm]
    rfl
  have ir := hic.run n S7 M (row (ledT M p s)) ⟨va_row ct.sz (by omega), M1, by omega⟩
  rw [isCh_ch ct] at ir
  have s6 : evS C (evCall C (n + (d + 1))) (.ife (.bop .Or (.cons (.cmp .NotEq (.var 4) (.call fo (.cons (.var 8) (.cons (.var 2) (.cons (.var 9) .nil))))) (.cons (.cmp .IsNot (.call ic (.cons (.var 8) (.cons (.var 4) .nil))) (.bl true)) .nil))) (.cons (.ret (.bl false)) .nil) .nil) [some (.ref j), some (.int w), some (tabD s), some (tabD t), some (row (ledT M p s)), none, none, some (.int H), some (.int M), some (row p), some (row q), some (num σ), none, none] S7 =
      .ok (.nx [some (.ref j), some (.int w), some (tabD s), some (tabD t), some (row (ledT M p s)), none, none, some (.int H), some (.int M), some (row p), some (row q), some (num σ), none, none]) S7 := by
    simp only [s_ife, e_bop, evBop, e_cmp, e_call, evEs, e_var, slot0, slotS, Res.bind_ok, settle_v, g1.fill, g1.run, hic.fill, ir, opt_some, ne_row, e_bl, isnot_bl, truth_bl, decide_true, Bool.not_true, Bool.false_eq_true, if_false, beq_self_eq_true, evSs]
  have s7 : evS C (evCall C (n + (d + 1))) (.asg (.nm 5) (.call bt (.cons (.var 7) (.cons (.var 8) (.cons (.var 2) (.cons (.var 10) .nil)))))) [some (.ref j), some (.int w), some (tabD s), some (tabD t), some (row (ledT M p s)), none, none, some (.int H), some (.int M), some (row p), some (row q), some (num σ), none, none] S7 = .ok (.nx [some (.ref j), some (.int w), some (tabD s), some (tabD t), some (row (ledT M p s)), some (row (ledT M q s)), none, some (.int H), some (.int M), some (row p), some (row q), some (num σ), none, none]) S7 := by
    simp only [s_asg, e_call, evEs, e_var, slot0, slotS, Res.bind_ok, settle_v, b2.fill, b2.run, opt_some, asT_nm, calm]
    rfl
  have sσ : Sz 6 σ := zs.mono (by decide)
  have l1 := hlb 6 σ p q sσ hp.sz hq.sz (by decide)
  have cb := betw_ch sσ z0 z1 hp hq
  have b3 := hbt H M 28 s (betw σ p q) H1 (by omega) M1 (by omega) (t3.up (by decide)) cb (by decide)
  have l2 := hlb 60 σ (ledT M p s) (ledT M q s) (zs.mono (by decide)) (ct.up kH).sz (cf.up kH).sz (by decide)
  have q1 := led_betw (s := σ) ls lp lq
  have s8 : evS C (evCall C (n + (d + 1))) (.ife (.cmp .NotEq (.call bt (.cons (.var 7) (.cons (.var 8) (.cons (.var 2) (.cons (.call lb (.cons (.var 11) (.cons (.var 9) (.cons (.var 10) .nil)))) .nil))))) (.call lb (.cons (.var 11) (.cons (.var 4) (.cons (.var 5) .nil))))) (.cons (.ret (.bl false)) .nil) .nil) [some (.ref j), some (.int w), some (tabD s), some (tabD t), some (row (ledT M p s)), some (row (ledT M q s)), none, some (.int H), some (.int M), some (row p), some (row q), some (num σ), none, none] S7 = .ok (.nx [some (.ref j), some (.int w), some (tabD s), some (tabD t), some (row (ledT M p s)), some (row (ledT M q s)), none, some (.int H), some (.int M), some (row p), some (row q), some (num σ), none, none]) S7 := by
    simp only [s_ife, e_cmp, e_call, evEs, e_var, slot0, slotS, Res.bind_ok, settle_v, l1.fill, l1.run, b3.fill, b3.run, l2.fill, l2.run, opt_some, ne_row, q1, truth_bl, decide_true, Bool.not_true, Bool.false_eq_true, if_false, evSs]
  have b4 := htb H M w 6 s t H1 (by omega) M1 (by omega) w1 w2 t3 t4 (by decide)
  have s9 : evS C (evCall C (n + (d + 1))) (.asg (.nm 6) (.call tb (.cons (.var 7) (.cons (.var 8) (.cons (.var 1) (.cons (.var 2) (.cons (.var 3) .nil))))))) [some (.ref j), some (.int w), some (tabD s), some (tabD t), some (row (ledT M p s)), some (row (ledT M q s)), none, some (.int H), some (.int M), some (row p), some (row q), some (num σ), none, none] S7 = .ok (.nx [some (.ref j), some (.int w), some (tabD s), some (tabD t), some (row (ledT M p s)), some (row (ledT M q s)), some (tabD (s.map fun p => ledT w p t)), some (.int H), some (.int M), some (row p), some (row q), some (num σ), none, none]) S7 := by
    simp only [s_asg, e_call, evEs, e_var, slot0, slotS, Res.bind_ok, settle_v, b4.fill, b4.run, opt_some, asT_nm, calm]
    rfl
  have key := lc_map (C := C) (call := evCall C (n + (d + 1))) (S := S7) (elt := .call fo (.cons (.var 1) (.cons (.var 3) (.cons (.var 13) .nil)))) (tg := .nm 13) (it := .seq (.var 2)) (k := 2) (ρ := [some (.ref j), some (.int w), some (tabD s), some (tabD t), some (row (ledT M p s)), some (row (ledT M q s)), some (tabD (s.map fun p => ledT w p t)), some (.int H), some (.int M), some (row p), some (row q), some (num σ), none, none]) (l := s) (f := row)
    (g := fun p => row (ledT w p t)) (evI_row (by simp [tabD])) fun u hu => by
    have g2 := hfo 6 6 w u t (t3.ch u hu).sz t4.tb (by omega) (by
      rw [(t3.ch u hu).len]
      have := Nat.mul_le_mul_right 13 (show M + 1 ≤ 5 by omega)
      omega)
    refine ⟨_, asT_nm, ?_⟩
    show evE C (evCall C (n + (d + 1))) _ [some (.ref j), some (.int w), some (tabD s), some (tabD t), some (row (ledT M p s)), some (row (ledT M q s)), some (tabD (s.map fun p => ledT w p t)), some (.int H), some (.int M), some (row p), some (row q), some (num σ), none, some (row u)] S7 = _
    simp only [e_call, evEs, e_var, slot0, slotS, Res.bind_ok, settle_v, g2.fill, g2.run, opt_some]
  have em : (s.map fun p => row (ledT w p t)) = (s.map fun p => ledT w p t).map row := by rw [List.map_map]; rfl
  have nt := ne_tab S7 (s.map fun p => ledT w p t) (s.map fun p => ledT w p t)
  have s10 : evS C (evCall C (n + (d + 1))) (.ife (.cmp .NotEq (.var 6) (.bi1 .tuple (.lc (.call fo (.cons (.var 1) (.cons (.var 3) (.cons (.var 13) .nil)))) (.nm 13) (.seq (.var 2)) .no 2))) (.cons (.ret (.bl false)) .nil) .nil) [some (.ref j), some (.int w), some (tabD s), some (tabD t), some (row (ledT M p s)), some (row (ledT M q s)), some (tabD (s.map fun p => ledT w p t)), some (.int H), some (.int M), some (row p), some (row q), some (num σ), none, none] S7 = .ok (.nx [some (.ref j), some (.int w), some (tabD s), some (tabD t), some (row (ledT M p s)), some (row (ledT M q s)), some (tabD (s.map fun p => ledT w p t)), some (.int H), some (.int M), some (row p), some (row q), some (num σ), none, none]) S7 := by
    simp only [s_ife, e_cmp, e_bi1, e_var, slot0, slotS, Res.bind_ok, key, tuple_t, em]
    rw [show D.tup ((s.map fun p => ledT w p t).map row) = tabD (s.map fun p => ledT w p t) from rfl, nt]
    simp only [opt_some, truth_bl, decide_true, Bool.not_true, Bool.false_eq_true, if_false, Res.bind_ok, evSs]
  have tB : ChT H w 60 (s.map fun p => ledT w p t) := ⟨by rw [List.length_map]; exact t3.len, fun u hu => by
    obtain ⟨v, hv, rfl⟩ := List.mem_map.mp hu
    refine (led_ch (t3.ch v hv) t4).up ?_
    have := Nat.mul_le_mul_right 13 M2
    omega⟩
  have b5 := hbt H w 60 (s.map fun p => ledT w p t) p H1 (by omega) w1 w2 tB (hp.up (by decide)) (by decide)
  have b6 := hbt M w 60 t (ledT M p s) M1 (by omega) w1 w2 (t4.up (by decide)) (ct.up kH) (by decide)
  have q2 := led_assoc (p := p) ls lt t4.len
  have s11 : evS C (evCall C (n + (d + 1))) (.ret (.cmp .Eq (.call bt (.cons (.var 7) (.cons (.var 1) (.cons (.var 6) (.cons (.var 9) .nil))))) (.call bt (.cons (.var 8) (.cons (.var 1) (.cons (.var 3) (.cons (.var 4) .nil))))))) [some (.ref j), some (.int w), some (tabD s), some (tabD t), some (row (ledT M p s)), some (row (ledT M q s)), some (tabD (s.map fun p => ledT w p t)), some (.int H), some (.int M), some (row p), some (row q), some (num σ), none, none] S7 = .ok (.rt (.v (.bl true))) S7 := by
    simp only [s_ret, e_cmp, e_call, evEs, e_var, slot0, slotS, Res.bind_ok, settle_v, b5.fill, b5.run, b6.fill, b6.run, opt_some, eq_row, q2, decide_true]
  have xx : Ext j S S7 := ((((((x1.trans x2).trans x3).trans x4).trans x5).trans x6).trans x7)
  obtain ⟨S8, e9, x8, d8⟩ := ev_dice (m := n + (d + 1)) (n := j) (c := c + 200) (S' := S7) (d := .bl true) (ds := [.ref j, .int w]) h rfl (fun _ z => nomatch z) hj (by
    show evSs C (evCall C (n + (d + 1))) (t_law_tables_right r sc f bt fo ic lb tb) [some (.ref j), some (.int w), none, none, none, none, none, none, none, none, none, none, none, none] S = _
    unfold t_law_tables_right
    rw [ss_nx s1, ss_nx s2, ss_nx s3, ss_nx s4, ss_nx s5, ss_nx s6, ss_nx s7, ss_nx s8, ss_nx s9, ss_nx s10, ss_rt s11]) xx (d7.mono (by omega))
  exact ⟨_, S8, e9, rfl, x8, d8⟩
end
end Q
end
section
-- M28
set_option Elab.async false
set_option linter.all false
set_option maxRecDepth 100000
namespace Q
/-! ### units, scaled rows, means -/
theorem dot_map {α : Type} (f g : α → Rat) : ∀ l : List α, dotL (l.map f) (l.map g) = sumL (l.map fun x => f x * g x)
  | [] => by rw [List.map_nil, List.map_nil, dotL_nil]; rfl
  | a :: l => by rw [List.map_cons, List.map_cons, dotL_cons, dot_map f g l, List.map_cons, sumL_cons]
theorem sum_pick (f : Nat → Rat) (i : Nat) : ∀ w : Nat, sumL ((List.range w).map fun j => (if j = i then 1 else 0) * f j) = if i < w then f i else 0
  | 0 => by simp [sumL_nil]
  | w + 1 => by
    rw [List.range_succ, List.map_append, List.map_cons, List.map_nil, sumL_snoc, sum_pick f i w]
    by_cases h : i < w
    · have h1 : i < w + 1 := by omega
      have h2 : ¬ w = i := by omega
      simp only [h, h1, h2, if_true, if_false, Rat.zero_mul, Rat.add_zero]
    · by_cases e : w = i
      · subst e
        simp only [Nat.lt_irrefl, Nat.lt_succ_self, if_true, if_false, Rat.one_mul, Rat.zero_add]
      · have h1 : ¬ i < w + 1 := by omega
        simp only [h, h1, e, if_false, Rat.zero_mul, Rat.add_zero]
theorem list_at {w : Nat} {l : List Rat} (h : l.length = w) : l = (List.range w).map fun j => at0L l j := by
  apply List.ext_getElem (by rw [List.length_map, List.length_range, h])
  intro j h1 h2
  rw [List.getElem_map, List.getElem_range]
  unfold at0L
  rw [List.getD_eq_getElem?_getD, List.getElem?_eq_getElem h1]
  rfl
theorem dot_unit {w i : Nat} {l : List Rat} (h : l.length = w) (hi : i < w) : dotL (unitL w i) l = at0L l i := by
  conv => lhs; rw [list_at h]
  unfold unitL
  rw [dot_map, sum_pick, if_pos hi]
theorem unit_ch {w i : Nat} (hi : i < w) : Ch w 1 (unitL w i) := by
  refine ⟨by simp [unitL], fun x hx => ?_, fun x hx => ?_, ?_⟩
  · obtain ⟨j, _, rfl⟩ := List.mem_map.mp hx
    split
    · exact sz_one
    · exact sz_zero
  · obtain ⟨j, _, rfl⟩ := List.mem_map.mp hx
    split <;> decide
  · have := sum_pick (fun _ => 1) i w
    rw [if_pos hi] at this
    unfold unitL
    refine Eq.trans ?_ this
    congr 1
    apply List.map_congr_left
    intro j _
    rw [Rat.mul_one]
theorem scaled {s : Rat} (hs : 0 < s) {p : List Rat} (h : sumL p = 1) : (p.map (s * ·)).map ((1 / sumL (p.map (s * ·))) * ·) = p := by
  rw [sumL_mul, h, Rat.mul_one, List.map_map]
  have : p.map ((fun x => 1 / s * x) ∘ fun x => s * x) = p.map id := by
    apply List.map_congr_left
    intro x _
    show 1 / s * (s * x) = x
    grind
  rw [this, List.map_id]
/-- the mean lies not below all entries -/
theorem mean_low : ∀ {p l : List Rat} {m : Rat}, p.length = l.length → (∀ x ∈ p, 0 ≤ x) → (∀ y ∈ l, m < y) → m * sumL p ≤ dotL p l ∧ (0 < sumL p → m * sumL p < dotL p l)
  | [], _, m, _, _, _ => by
    rw [dotL_nil, sumL_nil, Rat.mul_zero]
    exact ⟨Rat.le_refl, fun z => absurd z (by decide)⟩
  | a :: p, b :: l, m, h, hp, hl => by
    rw [sumL_cons, dotL_cons]
    obtain ⟨h1, h2⟩ := mean_low (by simpa using h) (fun x hx => hp x (List.mem_cons_of_mem _ hx)) fun y hy => hl y (List.mem_cons_of_mem _ hy)
    have ha := hp a List.mem_cons_self
    have hb := hl b List.mem_cons_self
    have e : 0 ≤ a * (b - m) := Rat.mul_nonneg ha (by grind)
    refine ⟨by grind, fun z => ?_⟩
    by_cases hq : 0 < sumL p
    · have := h2 hq
      grind
    · have h3 : 0 < a := by grind
      have e2 : 0 < a * (b - m) := Rat.mul_pos h3 (by grind)
      grind
  | _ :: _, [], _, h, _, _ => by cases h
end Q
end
section
-- M29
set_option Elab.async false
set_option linter.all false
set_option maxRecDepth 100000
namespace Q
open PySem (Str Operator CmpOp BoolOp PyData Paired)
def SBet (C : Q.Ctx) (d i : Nat) : Prop := ∀ w k s p q, 1 ≤ w → w ≤ 8 → Sz k s → 0 ≤ s → s ≤ 1 → Ch w k p → Ch w k q → k ≤ 100 → Sp C d i [.int w, num s, row p, row q] (.v (row (betw s p q)))
def SMean (C : Q.Ctx) (d i : Nat) : Prop := ∀ w k p q, 1 ≤ w → w ≤ 8 → Ch w k p → Ln w k q → k ≤ 100 → Sp C d i [.int w, row p, row q] (.v (num (dotL p q)))
def SSure (C : Q.Ctx) (d i : Nat) : Prop := ∀ w j : Nat, 1 ≤ w → w ≤ 8 → j < w → Sp C d i [.int w, .int j] (.v (row (unitL w j)))
def SEven (C : Q.Ctx) (d i : Nat) : Prop := ∀ w : Nat, 1 ≤ w → w ≤ 8 → Sp C d i [.int w] (.v (row (evenL w)))
def SSpots (C : Q.Ctx) (d i : Nat) : Prop := ∀ w k p, 1 ≤ w → w ≤ 8 → Ch w k p → k ≤ 100 → Sp C d i [.int w, row p] (.v (intsD (spotsL p)))
def SWeigh (C : Q.Ctx) (d i : Nat) : Prop := ∀ w k p, 1 ≤ w → w ≤ 8 → Ln w k p → (∀ x ∈ p, 0 ≤ x) → sumL p ≠ 0 → k ≤ 100 → Sp C d i [.int w, row p] (.v (row (p.map ((1 / sumL p) * ·))))
theorem Ln.up {w k l : Nat} {r : List Rat} (h : Ln w k r) (e : k ≤ l) : Ln w l r := ⟨h.len, fun x hx => (h.sz x hx).mono e⟩
theorem len_lt {l : List Rat} {P : Rat → Bool} {w : Nat} (h : l.length = w) (x : Rat) (hx : x ∈ l) (hp : P x = false) : (l.filter P).length < w := by
  rw [← h]
  exact List.length_filter_lt_length_iff_exists.mpr ⟨x, hx, by rw [hp]; exact Bool.false_ne_true⟩
theorem low_lt {w k : Nat} {p l : List Rat} (hp : Ch w k p) (hl : l.length = w) : (l.filter fun x => decide (dotL p l < x)).length < w := by
  by_cases h : ∃ x ∈ l, ¬ dotL p l < x
  · obtain ⟨x, hx, z⟩ := h
    exact len_lt hl x hx (decide_eq_false z)
  · exfalso
    have : ∀ y ∈ l, dotL p l < y := fun y hy => Classical.byContradiction fun z => h ⟨y, hy, z⟩
    have m := (mean_low (by rw [hp.len, hl]) hp.pos this).2 (by rw [hp.sum]; decide)
    rw [hp.sum, Rat.mul_one] at m
    exact absurd m (by grind)
theorem dot_neg : ∀ {p l : List Rat}, p.length = l.length → dotL p (l.map (-·)) = - dotL p l
  | [], [], _ => by rw [List.map_nil, dotL_nil]; decide
  | a :: p, b :: l, h => by
    rw [List.map_cons, dotL_cons, dotL_cons, dot_neg (by simpa using h)]
    grind
  | [], _ :: _, h => by cases h
  | _ :: _, [], h => by cases h
theorem high_lt {w k : Nat} {p l : List Rat} (hp : Ch w k p) (hl : l.length = w) : (l.filter fun x => decide (x < dotL p l)).length < w := by
  by_cases h : ∃ x ∈ l, ¬ x < dotL p l
  · obtain ⟨x, hx, z⟩ := h
    exact len_lt hl x hx (decide_eq_false z)
  · exfalso
    have e := dot_neg (p := p) (l := l) (by rw [hp.len, hl])
    have : ∀ y ∈ l.map (-·), dotL p (l.map (-·)) < y := fun y hy => by
      obtain ⟨x, hx, rfl⟩ := List.mem_map.mp hy
      have z : x < dotL p l := Classical.byContradiction fun z => h ⟨x, hx, z⟩
      rw [e]
      grind
    have m := (mean_low (by rw [hp.len, List.length_map, hl]) hp.pos this).2 (by rw [hp.sum]; decide)
    rw [hp.sum, Rat.mul_one] at m
    exact absurd m (by grind)
end Q
end
section
-- M30
set_option Elab.async false
set_option linter.all false
set_option maxRecDepth 100000
namespace Q
open PySem (Str Operator CmpOp BoolOp PyData Paired)
section
variable {C : Q.Ctx} {call : Nat → List D → Store → Res R} {S : Store}
theorem lone_spec (B : Big C) {i r f sc su ev bt lb ic mn dt pl tm mi by' sp wg un d : Nat} (h : C.fns[i]? = some (F_law_lone_right r f sc su ev bt lb ic mn dt pl tm mi by' sp wg un)) (hr : SRoll C (d + 1) r) (hf : C.fns[f]? = some fFr) (hsc : SSure C (d + 1) sc) (hsu : SUnit C (d + 1) su) (hev : SEven C (d + 1) ev) (hbt : SBet C (d + 1) bt) (hlb : SBetw C (d + 1) lb)
    (hic : SJw C (d + 1) ic (fun w S x => Va 100 S.length x ∧ 1 ≤ w ∧ w ≤ 8) isCh) (hmn : SMean C (d + 1) mn) (hdt : SDot C (d + 1) dt) (hpl : SAdd C (d + 1) pl) (htm : SMul C (d + 1) tm) (hmi : SSub C (d + 1) mi) (hby : SMulR C (d + 1) by') (hsp : SSpots C (d + 1) sp) (hwg : SWeigh C (d + 1) wg) (hun : SLess C (d + 1) un) :
    ∀ (w : Nat) p q l, 1 ≤ w → w ≤ 8 → Ch w 6 p → Ch w 6 q → Ln w 4 l → SDraw C (d + 2) i 10 [.int w, row p, row q, row l] (· = .bl true) := by
  intro w p q l w1 w2 hp hq hl
  refine ⟨fun x => fill_of h rfl, fun n S j c hD hc => ?_⟩
  have hj := hD.lt
  obtain ⟨a', S1, e1, a0, a1, x1, d1⟩ := hr.2 n S w j c hD (by omega) (by omega) (by omega)
  obtain ⟨a, rfl⟩ : ∃ a : Nat, a' = a := ⟨a'.toNat, by omega⟩
  obtain ⟨b, S2, e2, b0, b1, x2, d2⟩ := hr.2 n S1 8 j (c + 1) d1 (by decide) (by decide) (by omega)
  have ff := fill_of (C := C) (ds := [.int b, .int 7]) hf rfl
  have e3 : evCall C (n + (d + 1)) f [.int b, .int 7] S2 = _ := fr_spec (n := n + d) (S := S2) B hf b 7 (by decide) ((show Lt 4 b by unfold Lt; omega).mono (by decide)) ((show Lt 4 7 by unfold Lt; decide).mono (by decide))
  have zs := sz_share b0 (by omega) (show (0 : Int) < 7 by decide) (by decide)
  have z0 := div_nonneg b0 (show (0 : Int) < 7 by decide)
  have z1 := div_le_one (show b ≤ 7 by omega) (show (0 : Int) < 7 by decide)
  generalize hσ : Rat.divInt b 7 = σ at *
  have s1 : evS C (evCall C (n + (d + 1))) (.par2 11 12 (.call r (.cons (.var 0) (.cons (.var 1) .nil))) (.call f (.cons (.call r (.cons (.var 0) (.cons (.int 8) .nil))) (.cons (.int 7) .nil)))) [some (.ref j), some (.int w), some (row p), some (row q), some (row l), none, none, none, none, none, none, none, none, none, none] S =
      .ok (.nx [some (.ref j), some (.int w), some (row p), some (row q), some (row l), none, none, none, none, none, none, some (.int a), some (num σ), none, none]) S2 := by
    simp only [s_par2, e_call, evEs, e_var, slot0, slotS, e_int, Res.bind_ok, settle_v, opt_some, hr.1, e1, e2, ff, e3]
    rfl
  have c1 := hsc w a w1 w2 (by omega)
  have c2 := hsu w a w2
  have c3 := hev w w1 w2
  have c4 := mul_rep S2 w (Rat.divInt 1 w) (by omega)
  have s2 : evS C (evCall C (n + (d + 1))) (.ife (.bop .Or (.cons (.cmp .NotEq (.call sc (.cons (.var 1) (.cons (.var 11) .nil))) (.call su (.cons (.var 1) (.cons (.var 11) .nil)))) (.cons (.cmp .NotEq (.call ev (.cons (.var 1) .nil)) (.bin .Mult (.tup (.cons (.tup (.cons (.int 1) (.cons (.var 1) .nil))) .nil)) (.var 1))) .nil))) (.cons (.ret (.bl false)) .nil) .nil) [some (.ref j), some (.int w), some (row p), some (row q), some (row l), none, none, none, none, none, none, some (.int a), some (num σ), none, none] S2 =
      .ok (.nx [some (.ref j), some (.int w), some (row p), some (row q), some (row l), none, none, none, none, none, none, some (.int a), some (num σ), none, none]) S2 := by
    simp only [s_ife, e_bop, evBop, e_cmp, e_call, e_bin, e_tup, e_int, evEs, e_var, slot0, slotS, Res.bind_ok, settle_v, c1.fill, c1.run, c2.fill, c2.run, c3.fill, c3.run, num_one_div w1, c4, opt_some, ne_row, evenL, truth_bl, decide_true, Bool.not_true, Bool.false_eq_true, if_false, evSs]
  have sσ : Sz 6 σ := zs.mono (by decide)
  have cb := betw_ch sσ z0 z1 hp hq
  have b1' := hbt w 6 σ p q w1 w2 sσ z0 z1 hp hq (by decide)
  have b2' := hlb 6 σ p q sσ hp.sz hq.sz (by decide)
  have ir := hic.run n S2 w (row (betw σ p q)) ⟨va_row cb.sz (by decide), w1, w2⟩
  rw [isCh_ch cb] at ir
  have s3 : evS C (evCall C (n + (d + 1))) (.asg (.nm 5) (.call bt (.cons (.var 1) (.cons (.var 12) (.cons (.var 2) (.cons (.var 3) .nil)))))) [some (.ref j), some (.int w), some (row p), some (row q), some (row l), none, none, none, none, none, none, some (.int a), some (num σ), none, none] S2 = .ok (.nx [some (.ref j), some (.int w), some (row p), some (row q), some (row l), some (row (betw σ p q)), none, none, none, none, none, some (.int a), some (num σ), none, none]) S2 := by
    simp only [s_asg, e_call, evEs, e_var, slot0, slotS, Res.bind_ok, settle_v, b1'.fill, b1'.run, opt_some, asT_nm, calm]
    rfl
  have s4 : evS C (evCall C (n + (d + 1))) (.ife (.bop .Or (.cons (.cmp .NotEq (.var 5) (.call lb (.cons (.var 12) (.cons (.var 2) (.cons (.var 3) .nil))))) (.cons (.cmp .IsNot (.call ic (.cons (.var 1) (.cons (.var 5) .nil))) (.bl true)) .nil))) (.cons (.ret (.bl false)) .nil) .nil) [some (.ref j), some (.int w), some (row p), some (row q), some (row l), some (row (betw σ p q)), none, none, none, none, none, some (.int a), some (num σ), none, none] S2 = .ok (.nx [some (.ref j), some (.int w), some (row p), some (row q), some (row l), some (row (betw σ p q)), none, none, none, none, none, some (.int a), some (num σ), none, none]) S2 := by
    simp only [s_ife, e_bop, evBop, e_cmp, e_call, evEs, e_var, slot0, slotS, Res.bind_ok, settle_v, b2'.fill, b2'.run, hic.fill, ir, opt_some, ne_row, e_bl, isnot_bl, truth_bl, decide_true, Bool.not_true, Bool.false_eq_true, if_false, beq_self_eq_true, evSs]
  have m1 := hmn w 6 p l w1 w2 hp (hl.up (by decide)) (by decide)
  have m2 := hdt 6 4 p l hp.sz hl.sz (by
    rw [hp.len]
    have := Nat.mul_le_mul_right 11 (show w + 1 ≤ 9 by omega)
    omega)
  have m3 := hmn w 4 (unitL w a) l w1 w2 ((unit_ch (by omega)).up (by decide)) hl (by decide)
  have du : dotL (unitL w a) l = at0L l a := dot_unit hl.len (by omega)
  have ixl : getItem S2 (.v (row l)) (.v (.int a)) = some (num (at0L l a)) := by
    have ha : a < l.length := by rw [hl.len]; omega
    rw [ix_row S2 ha]
    unfold at0L
    rw [List.getD_eq_getElem?_getD, List.getElem?_eq_getElem ha]
    rfl
  have s5 : evS C (evCall C (n + (d + 1))) (.ife (.bop .Or (.cons (.cmp .NotEq (.call mn (.cons (.var 1) (.cons (.var 2) (.cons (.var 4) .nil)))) (.call dt (.cons (.var 2) (.cons (.var 4) .nil)))) (.cons (.cmp .NotEq (.call mn (.cons (.var 1) (.cons (.call sc (.cons (.var 1) (.cons (.var 11) .nil))) (.cons (.var 4) .nil)))) (.idx (.var 4) (.var 11))) .nil))) (.cons (.ret (.bl false)) .nil) .nil) [some (.ref j), some (.int w), some (row p), some (row q), some (row l), some (row (betw σ p q)), none, none, none, none, none, some (.int a), some (num σ), none, none] S2 = .ok (.nx [some (.ref j), some (.int w), some (row p), some (row q), some (row l), some (row (betw σ p q)), none, none, none, none, none, some (.int a), some (num σ), none, none]) S2 := by
    simp only [s_ife, e_bop, evBop, e_cmp, e_call, e_idx, evEs, e_var, slot0, slotS, Res.bind_ok, settle_v, m1.fill, m1.run, m2.fill, m2.run, c1.fill, c1.run, m3.fill, m3.run, ixl, du, opt_some, ne_num, truth_bl, decide_true, Bool.not_true, Bool.false_eq_true, if_false, evSs]
  have m4 := hmn w 6 q l w1 w2 hq (hl.up (by decide)) (by decide)
  have m5 := hmn w 28 (betw σ p q) l w1 w2 cb (hl.up (by decide)) (by decide)
  have szd : ∀ x, Ch w 6 x → Sz 200 (dotL x l) := fun x hx => by
    have z : ∀ y ∈ List.zipWith (· * ·) x l, Sz 10 y := fun y hy => by
      obtain ⟨u, hu, v, hv, e⟩ := mem_zipWith hy
      rw [e]
      exact sz_mul (hx.sz u hu) (hl.sz v hv)
    refine (sz_sum _ z).mono ?_
    have e : (List.zipWith (· * ·) x l).length ≤ 8 := by rw [List.length_zipWith, hx.len]; omega
    have := Nat.mul_le_mul_right 11 e
    omega
  have t1 := htm 6 200 σ (dotL p l) sσ (szd p hp) (by decide)
  have t2 := hmi 1 6 1 σ sz_one sσ (by decide)
  have t3 := htm 8 200 (1 - σ) (dotL q l) (sz_sub sz_one sσ) (szd q hq) (by decide)
  have t4 := hpl 206 208 (σ * dotL p l) ((1 - σ) * dotL q l) (sz_mul sσ (szd p hp)) (sz_mul (sz_sub sz_one sσ) (szd q hq)) (by decide)
  have lin := dot_betw σ (p := p) (q := q) (l := l) (by rw [hp.len, hq.len]) (by rw [hp.len, hl.len])
  have s6 : evS C (evCall C (n + (d + 1))) (.asg (.nm 6) (.call pl (.cons (.call tm (.cons (.var 12) (.cons (.call mn (.cons (.var 1) (.cons (.var 2) (.cons (.var 4) .nil)))) .nil))) (.cons (.call tm (.cons (.call mi (.cons (.tup (.cons (.int 1) (.cons (.int 1) .nil))) (.cons (.var 12) .nil))) (.cons (.call mn (.cons (.var 1) (.cons (.var 3) (.cons (.var 4) .nil)))) .nil))) .nil)))) [some (.ref j), some (.int w), some (row p), some (row q), some (row l), some (row (betw σ p q)), none, none, none, none, none, some (.int a), some (num σ), none, none] S2 = .ok (.nx [some (.ref j), some (.int w), some (row p), some (row q), some (row l), some (row (betw σ p q)), some (num (dotL (betw σ p q) l)), none, none, none, none, some (.int a), some (num σ), none, none]) S2 := by
    simp only [s_asg, e_call, evEs, e_var, slot0, slotS, e_tup, e_int, d_one, Res.bind_ok, settle_v, m1.fill, m1.run, m4.fill, m4.run, t1.fill, t1.run, t2.fill, t2.run, t3.fill, t3.run, t4.fill, t4.run, opt_some, asT_nm, calm]
    rw [← lin]
    rfl
  have s7 : evS C (evCall C (n + (d + 1))) (.ife (.cmp .NotEq (.call mn (.cons (.var 1) (.cons (.var 5) (.cons (.var 4) .nil)))) (.var 6)) (.cons (.ret (.bl false)) .nil) .nil) [some (.ref j), some (.int w), some (row p), some (row q), some (row l), some (row (betw σ p q)), some (num (dotL (betw σ p q) l)), none, none, none, none, some (.int a), some (num σ), none, none] S2 = .ok (.nx [some (.ref j), some (.int w), some (row p), some (row q), some (row l), some (row (betw σ p q)), some (num (dotL (betw σ p q) l)), none, none, none, none, some (.int a), some (num σ), none, none]) S2 := by
    simp only [s_ife, e_cmp, e_call, evEs, e_var, slot0, slotS, Res.bind_ok, settle_v, m5.fill, m5.run, opt_some, ne_num, truth_bl, decide_true, Bool.not_true, Bool.false_eq_true, if_false, evSs]
  have k8 := spots_lc (C := C) (call := evCall C (n + (d + 1))) (S := S2) (i := 14) (j := 13) (e := .var 2) (ρ := [some (.ref j), some (.int w), some (row p), some (row q), some (row l), some (row (betw σ p q)), some (num (dotL (betw σ p q) l)), none, none, none, none, some (.int a), some (num σ), none, none]) (r := p) (k := 0) (by simp) (by simp) (by simp) (by decide)
  have s8 : evS C (evCall C (n + (d + 1))) (.asg (.nm 7) (.bi1 .tuple (.lc (.var 14) (.tp (.cons (.nm 14) (.cons (.nm 13) .nil))) (.enum (.var 2)) (.so (.cmp .Gt (.idx (.var 13) (.int 0)) (.int 0))) 0))) [some (.ref j), some (.int w), some (row p), some (row q), some (row l), some (row (betw σ p q)), some (num (dotL (betw σ p q) l)), none, none, none, none, some (.int a), some (num σ), none, none] S2 = .ok (.nx [some (.ref j), some (.int w), some (row p), some (row q), some (row l), some (row (betw σ p q)), some (num (dotL (betw σ p q) l)), some (intsD (spotsL p)), none, none, none, some (.int a), some (num σ), none, none]) S2 := by
    simp only [s_asg, e_bi1, k8, tuple_t, Res.bind_ok, settle_v, asT_nm, calm]
    rfl
  obtain ⟨u, S3, e4, u0, u1, x3, d3⟩ := hr.2 n S2 9 j (c + 2) d2 (by decide) (by decide) (by omega)
  obtain ⟨v, S4, e5, v0, v1, x4, d4⟩ := hr.2 n S3 4 j (c + 3) d3 (by decide) (by decide) (by omega)
  have fu := fill_of (C := C) (ds := [.int (1 + u), .int (1 + v)]) hf rfl
  have e6 : evCall C (n + (d + 1)) f [.int (1 + u), .int (1 + v)] S4 = _ := fr_spec (n := n + d) (S := S4) B hf (1 + u) (1 + v) (by omega) ((show Lt 4 (1 + u) by unfold Lt; omega).mono (by decide)) ((show Lt 4 (1 + v) by unfold Lt; omega).mono (by decide))
  have zc : Sz 4 (Rat.divInt (1 + u) (1 + v)) := sz_div (by unfold Lt; omega) (by unfold Lt; omega) (by omega)
  have zn : 0 ≤ Rat.divInt (1 + u) (1 + v) := div_nonneg (by omega) (by omega)
  have zne : Rat.divInt (1 + u) (1 + v) ≠ 0 := fun z => by
    rw [← Rat.zero_divInt 1, Rat.divInt_eq_divInt_iff (by omega) (by decide)] at z
    omega
  generalize hκ : Rat.divInt (1 + u) (1 + v) = κ at *
  have zp : 0 < κ := by grind
  have y1 := hby 4 6 κ p zc hp.sz (by decide)
  have s9 : evS C (evCall C (n + (d + 1))) (.asg (.nm 8) (.call by' (.cons (.call f (.cons (.bin .Add (.int 1) (.call r (.cons (.var 0) (.cons (.int 9) .nil)))) (.cons (.bin .Add (.int 1) (.call r (.cons (.var 0) (.cons (.int 4) .nil)))) .nil))) (.cons (.var 2) .nil)))) [some (.ref j), some (.int w), some (row p), some (row q), some (row l), some (row (betw σ p q)), some (num (dotL (betw σ p q) l)), some (intsD (spotsL p)), none, none, none, some (.int a), some (num σ), none, none] S2 = .ok (.nx [some (.ref j), some (.int w), some (row p), some (row q), some (row l), some (row (betw σ p q)), some (num (dotL (betw σ p q) l)), some (intsD (spotsL p)), some (row (p.map (κ * ·))), none, none, some (.int a), some (num σ), none, none]) S4 := by
    simp only [s_asg, e_call, e_bin, evEs, e_var, slot0, slotS, e_int, Res.bind_ok, settle_v, hr.1, e4, e5, add_int, fu, e6, y1.fill, y1.run, opt_some, asT_nm, calm]
    rfl
  have sc1 : sumL (p.map (κ * ·)) = κ := by rw [sumL_mul, hp.sum, Rat.mul_one]
  have g1 := hsp w 6 p w1 w2 hp (by decide)
  have g2 := hwg w 10 (p.map (κ * ·)) w1 w2 ⟨by rw [List.length_map]; exact hp.len, mem_map_sz zc hp.sz⟩ (fun x hx => by
    obtain ⟨y, hy, rfl⟩ := List.mem_map.mp hx
    exact Rat.mul_nonneg zn (hp.pos y hy)) (by rw [sc1]; exact zne) (by decide)
  rw [scaled zp hp.sum] at g2
  have s10 : evS C (evCall C (n + (d + 1))) (.ife (.bop .Or (.cons (.cmp .NotEq (.call sp (.cons (.var 1) (.cons (.var 2) .nil))) (.var 7)) (.cons (.cmp .NotEq (.call wg (.cons (.var 1) (.cons (.var 8) .nil))) (.var 2)) .nil))) (.cons (.ret (.bl false)) .nil) .nil) [some (.ref j), some (.int w), some (row p), some (row q), some (row l), some (row (betw σ p q)), some (num (dotL (betw σ p q) l)), some (intsD (spotsL p)), some (row (p.map (κ * ·))), none, none, some (.int a), some (num σ), none, none] S4 = .ok (.nx [some (.ref j), some (.int w), some (row p), some (row q), some (row l), some (row (betw σ p q)), some (num (dotL (betw σ p q) l)), some (intsD (spotsL p)), some (row (p.map (κ * ·))), none, none, some (.int a), some (num σ), none, none]) S4 := by
    simp only [s_ife, e_bop, evBop, e_cmp, e_call, evEs, e_var, slot0, slotS, Res.bind_ok, settle_v, g1.fill, g1.run, g2.fill, g2.run, opt_some, ne_ints, ne_row, truth_bl, decide_true, Bool.not_true, Bool.false_eq_true, if_false, evSs]
  have k11 := lc_filter (C := C) (call := evCall C (n + (d + 1))) (S := S4) (elt := .var 13) (c := .so (.call un (.cons (.call mn (.cons (.var 1) (.cons (.var 2) (.cons (.var 4) .nil)))) (.cons (.var 13) .nil)))) (tg := .nm 13) (it := .seq (.var 4)) (k := 1) (ρ := [some (.ref j), some (.int w), some (row p), some (row q), some (row l), some (row (betw σ p q)), some (num (dotL (betw σ p q) l)), some (intsD (spotsL p)), some (row (p.map (κ * ·))), none, none, some (.int a), some (num σ), none, none]) (l := l) (f := num)
    (p := fun x => decide (dotL p l < x)) (g := num) (evI_row (by simp [row])) fun y hy => by
    have c := hun 200 4 (dotL p l) y (szd p hp) (hl.sz y hy) (by decide)
    refine ⟨_, asT_nm, ?_, fun _ => ?_⟩
    · show evC C (evCall C (n + (d + 1))) _ [some (.ref j), some (.int w), some (row p), some (row q), some (row l), some (row (betw σ p q)), some (num (dotL (betw σ p q) l)), some (intsD (spotsL p)), some (row (p.map (κ * ·))), none, none, some (.int a), some (num σ), some (num y), none] S4 = _
      simp only [evC, e_call, evEs, e_var, slot0, slotS, Res.bind_ok, settle_v, m1.fill, m1.run, c.fill, c.run, opt_some, truth_bl]
    · show evE C (evCall C (n + (d + 1))) _ [some (.ref j), some (.int w), some (row p), some (row q), some (row l), some (row (betw σ p q)), some (num (dotL (betw σ p q) l)), some (intsD (spotsL p)), some (row (p.map (κ * ·))), none, none, some (.int a), some (num σ), some (num y), none] S4 = _
      simp only [e_var, slot0, slotS]
  have s11 : evS C (evCall C (n + (d + 1))) (.asg (.nm 9) (.lc (.var 13) (.nm 13) (.seq (.var 4)) (.so (.call un (.cons (.call mn (.cons (.var 1) (.cons (.var 2) (.cons (.var 4) .nil)))) (.cons (.var 13) .nil)))) 1)) [some (.ref j), some (.int w), some (row p), some (row q), some (row l), some (row (betw σ p q)), some (num (dotL (betw σ p q) l)), some (intsD (spotsL p)), some (row (p.map (κ * ·))), none, none, some (.int a), some (num σ), none, none] S4 = .ok (.nx [some (.ref j), some (.int w), some (row p), some (row q), some (row l), some (row (betw σ p q)), some (num (dotL (betw σ p q) l)), some (intsD (spotsL p)), some (row (p.map (κ * ·))), some (.ref S4.length), none, some (.int a), some (num σ), none, none]) (S4 ++ [.lst ((l.filter fun x => decide (dotL p l < x)).map num)]) := by
    simp only [s_asg, k11, Res.bind_ok, settle_t, asT_nm, calm]
    rfl
  generalize hS5 : S4 ++ [Cell.lst ((l.filter fun x => decide (dotL p l < x)).map num)] = S5 at *
  have hS5l : S5.length = S4.length + 1 := by rw [← hS5]; simp
  have hS5c : S5[S4.length]? = some (.lst ((l.filter fun x => decide (dotL p l < x)).map num)) := by rw [← hS5]; simp
  have k12 := lc_filter (C := C) (call := evCall C (n + (d + 1))) (S := S5) (elt := .var 13) (c := .so (.call un (.cons (.var 13) (.cons (.call mn (.cons (.var 1) (.cons (.var 2) (.cons (.var 4) .nil)))) .nil)))) (tg := .nm 13) (it := .seq (.var 4)) (k := 2) (ρ := [some (.ref j), some (.int w), some (row p), some (row q), some (row l), some (row (betw σ p q)), some (num (dotL (betw σ p q) l)), some (intsD (spotsL p)), some (row (p.map (κ * ·))), some (.ref S4.length), none, some (.int a), some (num σ), none, none]) (l := l) (f := num)
    (p := fun x => decide (x < dotL p l)) (g := num) (evI_row (by simp [row])) fun y hy => by
    have c := hun 4 200 y (dotL p l) (hl.sz y hy) (szd p hp) (by decide)
    refine ⟨_, asT_nm, ?_, fun _ => ?_⟩
    · show evC C (evCall C (n + (d + 1))) _ [some (.ref j), some (.int w), some (row p), some (row q), some (row l), some (row (betw σ p q)), some (num (dotL (betw σ p q) l)), some (intsD (spotsL p)), some (row (p.map (κ * ·))), some (.ref S4.length), none, some (.int a), some (num σ), some (num y), none] S5 = _
      simp only [evC, e_call, evEs, e_var, slot0, slotS, Res.bind_ok, settle_v, m1.fill, m1.run, c.fill, c.run, opt_some, truth_bl]
    · show evE C (evCall C (n + (d + 1))) _ [some (.ref j), some (.int w), some (row p), some (row q), some (row l), some (row (betw σ p q)), some (num (dotL (betw σ p q) l)), some (intsD (spotsL p)), some (row (p.map (κ * ·))), some (.ref S4.length), none, some (.int a), some (num σ), some (num y), none] S5 = _
      simp only [e_var, slot0, slotS]
  have s12 : evS C (evCall C (n + (d + 1))) (.asg (.nm 10) (.lc (.var 13) (.nm 13) (.seq (.var 4)) (.so (.call un (.cons (.var 13) (.cons (.call mn (.cons (.var 1) (.cons (.var 2) (.cons (.var 4) .nil)))) .nil)))) 2)) [some (.ref j), some (.int w), some (row p), some (row q), some (row l), some (row (betw σ p q)), some (num (dotL (betw σ p q) l)), some (intsD (spotsL p)), some (row (p.map (κ * ·))), some (.ref S4.length), none, some (.int a), some (num σ), none, none] S5 = .ok (.nx [some (.ref j), some (.int w), some (row p), some (row q), some (row l), some (row (betw σ p q)), some (num (dotL (betw σ p q) l)), some (intsD (spotsL p)), some (row (p.map (κ * ·))), some (.ref S4.length), some (.ref (S4.length + 1)), some (.int a), some (num σ), none, none]) (S5 ++ [.lst ((l.filter fun x => decide (x < dotL p l)).map num)]) := by
    simp only [s_asg, k12, Res.bind_ok, settle_t, asT_nm, calm, hS5l]
    rfl
  generalize hS6 : S5 ++ [Cell.lst ((l.filter fun x => decide (x < dotL p l)).map num)] = S6 at *
  have hl1 : S6[S4.length]? = some (.lst ((l.filter fun x => decide (dotL p l < x)).map num)) := by rw [← hS6, List.getElem?_append_left (by omega)]; exact hS5c
  have hl2 : S6[S4.length + 1]? = some (.lst ((l.filter fun x => decide (x < dotL p l)).map num)) := by rw [← hS6, ← hS5l]; simp
  have n1 := len_ref S6 _ _ hl1
  have n2 := len_ref S6 _ _ hl2
  rw [List.length_map] at n1 n2
  have q1 := low_lt hp hl.len
  have q2 := high_lt hp hl.len
  have r1 : decide ((((l.filter fun x => decide (dotL p l < x)).length : Nat) : Int) < (w : Int)) = true := decide_eq_true (by omega)
  have r2 : decide ((((l.filter fun x => decide (x < dotL p l)).length : Nat) : Int) < (w : Int)) = true := decide_eq_true (by omega)
  have s13 : evS C (evCall C (n + (d + 1))) (.ret (.bop .And (.cons (.cmp .Lt (.bi1 .len (.var 9)) (.var 1)) (.cons (.cmp .Lt (.bi1 .len (.var 10)) (.var 1)) .nil)))) [some (.ref j), some (.int w), some (row p), some (row q), some (row l), some (row (betw σ p q)), some (num (dotL (betw σ p q) l)), some (intsD (spotsL p)), some (row (p.map (κ * ·))), some (.ref S4.length), some (.ref (S4.length + 1)), some (.int a), some (num σ), none, none] S6 = .ok (.rt (.v (.bl true))) S6 := by
    simp only [s_ret, e_bop, evBop, e_cmp, e_bi1, e_var, slot0, slotS, Res.bind_ok, n1, n2, lt_int, r1, r2, opt_some, truth_bl, if_true]
  have xx : Ext j S S6 := (((x1.trans x2).trans x3).trans x4).trans (by rw [← hS6, ← hS5]; exact Ext.push.trans Ext.push)
  have dd : Dice S6 j (c + 10) := by
    rw [← hS6, ← hS5]
    exact d4.push.push.mono (by omega)
  obtain ⟨S8, e9, x8, d8⟩ := ev_dice (m := n + (d + 1)) (n := j) (c := c + 10) (S' := S6) (d := .bl true) (ds := [.ref j, .int w, row p, row q, row l]) h rfl (fun _ z => nomatch z) hj (by
    show evSs C (evCall C (n + (d + 1))) (t_law_lone_right r f sc su ev bt lb ic mn dt pl tm mi by' sp wg un) [some (.ref j), some (.int w), some (row p), some (row q), some (row l), none, none, none, none, none, none, none, none, none, none] S = _
    unfold t_law_lone_right
    rw [ss_nx s1, ss_nx s2, ss_nx s3, ss_nx s4, ss_nx s5, ss_nx s6, ss_nx s7, ss_nx s8, ss_nx s9, ss_nx s10, ss_nx s11, ss_nx s12, ss_rt s13]) xx dd
  exact ⟨_, S8, e9, rfl, x8, d8⟩
end
end Q
end
section
-- M31
set_option Elab.async false
set_option linter.all false
set_option maxRecDepth 100000
namespace Q
open PySem (Str Operator CmpOp BoolOp PyData Paired)
section
variable {C : Q.Ctx} {call : Nat → List D → Store → Res R} {S : Store}
theorem right_spec {i r sc sr jd tb lo d : Nat} (h : C.fns[i]? = some (F_law_right r sc sr jd tb lo)) (hr : SRoll C d r) (hs : ∀ w : Nat, 1 ≤ w → w ≤ 8 → SDraw C d sc 9 [.int w] (fun x => ∃ r, x = row r ∧ Ch w 6 r)) (hl : ∀ w : Nat, w ≤ 8 → SDraw C d sr 16 [.int w] (fun x => ∃ r, x = row r ∧ Ln w 4 r))
    (hj : ∀ w p t, 1 ≤ w → w ≤ 8 → Ch w 6 p → (∀ q ∈ t, Ch w 6 q) → 1 ≤ t.length → t.length ≤ 8 → SDraw C d jd 3 [.int w, row p, tabD t] (· = .bl true)) (ht : ∀ w : Nat, 1 ≤ w → w ≤ 8 → SDraw C d tb 200 [.int w] (· = .bl true)) (ho : ∀ (w : Nat) p q l, 1 ≤ w → w ≤ 8 → Ch w 6 p → Ch w 6 q → Ln w 4 l → SDraw C d lo 10 [.int w, row p, row q, row l] (· = .bl true)) :
    SDraw C (d + 1) i 400 [] (· = .bl true) := by
  refine ⟨fun x => fill_of h rfl, fun n S j c hD hc => ?_⟩
  have hj0 := hD.lt
  obtain ⟨w, S1, e1, w1, w2, x1, d1⟩ := roll_one (C := C) (S := S) (d := d) (n := n) (ρ := [some (.ref j), none, none, none, none, none, none]) hr hD (by omega) rfl 4 (by decide) (by decide)
  have s1 : evS C (evCall C (n + d)) (.asg (.nm 1) (.bin .Add (.int 1) (.call r (.cons (.var 0) (.cons (.int 4) .nil))))) [some (.ref j), none, none, none, none, none, none] S = .ok (.nx [some (.ref j), some (.int w), none, none, none, none, none]) S1 := by
    have e1' : evE C (evCall C (n + d)) (.bin .Add (.int 1) (.call r (.cons (.var 0) (.cons (.int 4) .nil)))) _ S = _ := e1
    simp only [s_asg, e1', Res.bind_ok, settle_v, asT_nm, calm]
    rfl
  obtain ⟨_, S2, e2, ⟨p, rfl, hp⟩, x2, d2⟩ := (hs w w1 (by omega)).run n S1 j _ d1 (by omega)
  obtain ⟨_, S3, e3, ⟨q, rfl, hq⟩, x3, d3⟩ := (hs w w1 (by omega)).run n S2 j _ d2 (by omega)
  obtain ⟨_, S4, e4, ⟨l, rfl, hln⟩, x4, d4⟩ := (hl w (by omega)).run n S3 j _ d3 (by omega)
  have f1 := (hs w w1 (by omega)).fill
  have f2 := (hl w (by omega)).fill
  have s2 : evS C (evCall C (n + d)) (.par3 3 4 5 (.call sc (.cons (.var 0) (.cons (.var 1) .nil))) (.call sc (.cons (.var 0) (.cons (.var 1) .nil))) (.call sr (.cons (.var 0) (.cons (.var 1) .nil)))) [some (.ref j), some (.int w), none, none, none, none, none] S1 = .ok (.nx [some (.ref j), some (.int w), none, some (row p), some (row q), some (row l), none]) S4 := by
    simp only [s_par3, e_call, evEs, e_var, slot0, slotS, Res.bind_ok, settle_v, f1, f2, opt_some, e2, e3, e4]
    rfl
  obtain ⟨H, S5, e5, H1, H2, x5, d5⟩ := roll_one (C := C) (S := S4) (d := d) (n := n) (ρ := [some (.ref j), some (.int w), none, some (row p), some (row q), some (row l), none]) hr d4 (by omega) rfl 4 (by decide) (by decide)
  obtain ⟨t, S6, e6, t6, x6, d6⟩ := draw_table (C := C) (S := S5) (S0 := S4) (d := d) (n := n) (i := 6) (y := 1) (e := .bin .Add (.int 1) (.call r (.cons (.var 0) (.cons (.int 4) .nil)))) (ρ := [some (.ref j), some (.int w), none, some (row p), some (row q), some (row l), none]) (h := H) (k0 := 0) (x := 0) (hs w w1 (by omega)) d5 (by omega) e5 (by omega) (fun z => ⟨rfl, rfl⟩) (fun z => rfl)
  have s3 : evS C (evCall C (n + d)) (.asg (.nm 2) (.bi1 .tuple (.lc (.call sc (.cons (.var 0) (.cons (.var 1) .nil))) (.nm 6) (.rng1 (.bin .Add (.int 1) (.call r (.cons (.var 0) (.cons (.int 4) .nil))))) .no 0))) [some (.ref j), some (.int w), none, some (row p), some (row q), some (row l), none] S4 = .ok (.nx [some (.ref j), some (.int w), some (tabD t), some (row p), some (row q), some (row l), none]) S6 := by
    simp only [s_asg, e6, Res.bind_ok, settle_v, asT_nm, calm]
    rfl
  have J := hj w p t w1 (by omega) hp t6.ch (by rw [t6.len]; exact H1) (by rw [t6.len]; omega)
  obtain ⟨_, S7, e7, rfl, x7, d7⟩ := J.run n S6 j _ d6 (by omega)
  have T := ht w w1 (by omega)
  obtain ⟨_, S8, e8, rfl, x8, d8⟩ := T.run n S7 j _ d7 (by omega)
  have O := ho w p q l w1 (by omega) hp hq hln
  obtain ⟨_, S9, e9, rfl, x9, d9⟩ := O.run n S8 j _ d8 (by omega)
  have s4 : evS C (evCall C (n + d)) (.ife (.bop .Or (.cons (.not (.call jd (.cons (.var 0) (.cons (.var 1) (.cons (.var 3) (.cons (.var 2) .nil)))))) (.cons (.not (.call tb (.cons (.var 0) (.cons (.var 1) .nil)))) .nil))) (.cons (.ret (.bl false)) .nil) .nil) [some (.ref j), some (.int w), some (tabD t), some (row p), some (row q), some (row l), none] S6 = .ok (.nx [some (.ref j), some (.int w), some (tabD t), some (row p), some (row q), some (row l), none]) S8 := by
    simp only [s_ife, e_bop, evBop, e_not, e_call, evEs, e_var, slot0, slotS, Res.bind_ok, settle_v, J.fill, T.fill, opt_some, e7, e8, truth_bl, Bool.not_true, Bool.false_eq_true, if_false, evSs]
  have s5 : evS C (evCall C (n + d)) (.ret (.call lo (.cons (.var 0) (.cons (.var 1) (.cons (.var 3) (.cons (.var 4) (.cons (.var 5) .nil))))))) [some (.ref j), some (.int w), some (tabD t), some (row p), some (row q), some (row l), none] S8 = .ok (.rt (.v (.bl true))) S9 := by
    simp only [s_ret, e_call, evEs, e_var, slot0, slotS, Res.bind_ok, settle_v, O.fill, opt_some, e9]
  obtain ⟨S10, e10, x10, d10⟩ := ev_dice (m := n + d) (n := j) (c := c + 400) (S' := S9) (d := .bl true) (ds := [.ref j]) h rfl (fun _ z => nomatch z) hj0 (by
    show evSs C (evCall C (n + d)) (t_law_right r sc sr jd tb lo) [some (.ref j), none, none, none, none, none, none] S = _
    unfold t_law_right
    rw [ss_nx s1, ss_nx s2, ss_nx s3, ss_nx s4, ss_rt s5]) ((((((((x1.trans x2).trans x3).trans x4).trans x5).trans x6).trans x7).trans x8).trans x9) (d9.mono (by omega))
  exact ⟨_, S10, e10, rfl, x10, d10⟩
end
end Q
end
section
-- M32
set_option Elab.async false
set_option linter.all false
set_option maxRecDepth 100000
namespace Q
open PySem (Str Operator CmpOp BoolOp PyData Paired)
section
variable {C : Q.Ctx} {call : Nat → List D → Store → Res R} {S : Store}
theorem pow_int (S : Store) {i j : Int} (h0 : 0 ≤ j) (h1 : j ≤ 1000) (h2 : i.natAbs.log2 < 1000) : evBin .Pow S (.v (.int i)) (.v (.int j)) = .ok (.v (.int (i ^ j.toNat))) S := by
  show (if (decide (0 ≤ j) && decide (j ≤ 1000) && Nat.blt i.natAbs.log2 1000) = true then _ else _) = _
  rw [if_pos]
  rw [decide_eq_true h0, decide_eq_true h1, Nat.blt_eq.mpr h2]
  rfl
theorem max_int (S : Store) (i j : Int) : evBi2 .max S (.v (.int i)) (.v (.int j)) = .ok (.v (.int (if j > i then j else i))) S := rfl
theorem min_int (S : Store) (i j : Int) : evBi2 .min S (.v (.int i)) (.v (.int j)) = .ok (.v (.int (if j < i then j else i))) S := rfl
def big329 : Int := (10 ^ 47) ^ 7
/-- the dice of a script's cell -/
theorem dice_spec {i : Nat} (h : C.fns[i]? = some F_law_dice) (ns : List Int) (k : Nat) (hk : k < 5) : Q.fill C i [.fl (ns.map .int), .int k] = some [.fl (ns.map .int), .int k] ∧ ∀ n S, ∃ a s : Int, evCall C (n + 1) i [.fl (ns.map .int), .int k] S = .ok (.t [.int a, .int s, .int 0]) S ∧ 0 ≤ a ∧ 0 ≤ s ∧ Lt 2000 a ∧ Lt 200 s := by
  refine ⟨fill_of h rfl, fun n S => ?_⟩
  have cell : ∃ c : Int, evE C (evCall C n) (.ife (.cmp .Lt (.var 1) (.bi1 .len (.var 0))) (.bi1 .int (.idx (.var 0) (.var 1))) (.bin .Add (.bin .Mult (.int 173) (.var 1)) (.int 59))) [some (.fl (ns.map .int)), some (.int k), none, none, none] S = .ok (.v (.int c)) S := by
    by_cases hl : k < ns.length
    · have g : decide ((k : Int) < ((ns.map D.int).length : Int)) = true := decide_eq_true (by rw [List.length_map]; omega)
      refine ⟨ns[k], ?_⟩
      have at_ : atD (ns.map D.int) (k : Int) = some (.int ns[k]) := by rw [atD_nat (by rw [List.length_map]; exact hl), List.getElem_map]
      simp only [e_ife, e_cmp, e_bi1, e_idx, e_var, slot0, slotS, Res.bind_ok, len_fl, lt_int, g, opt_some, truth_bl, if_true, ix_fl, at_, int_int]
    · have g : decide ((k : Int) < ((ns.map D.int).length : Int)) = false := decide_eq_false (by rw [List.length_map]; omega)
      have m := mul_int S 173 (k : Int) (mulOk_of (k := 10) (l := 10) (by unfold Lt; decide) (by unfold Lt; omega) (by decide))
      exact ⟨173 * k + 59, by simp only [e_ife, e_cmp, e_bi1, e_bin, e_int, e_var, slot0, slotS, Res.bind_ok, len_fl, lt_int, g, opt_some, truth_bl, Bool.false_eq_true, if_false, m, add_int]⟩
  obtain ⟨c, cell⟩ := cell
  have p1 : evBin .Pow S (.v (.int 10)) (.v (.int 47)) = .ok (.v (.int (10 ^ 47))) S := pow_int S (by decide) (by decide) (by decide +kernel)
  have p2 : evBin .Pow S (.v (.int (10 ^ 47))) (.v (.int 7)) = .ok (.v (.int big329)) S := pow_int S (by decide) (by decide) (by decide +kernel)
  have p3 : evBin .Pow S (.v (.int 10)) (.v (.int 15)) = .ok (.v (.int (10 ^ 15))) S := pow_int S (by decide) (by decide) (by decide +kernel)
  have hb : (0 : Int) < big329 := by decide +kernel
  have lb : Lt 1999 big329 := by unfold Lt; decide +kernel
  have d1 := mod_int S (c.natAbs : Int) big329 (by omega)
  have g0 : 0 ≤ (c.natAbs : Int).fmod big329 := Int.fmod_nonneg_of_pos _ hb
  have g1 : (c.natAbs : Int).fmod big329 < big329 := Int.fmod_lt_of_pos _ hb
  generalize hg : (c.natAbs : Int).fmod big329 = g at *
  have lg : Lt 1999 g := by unfold Lt at *; omega
  have d2 := mod_int S g 2305843009213693669 (by decide)
  have t0 : 0 ≤ g.fmod 2305843009213693669 := Int.fmod_nonneg_of_pos _ (by decide)
  have t1 : g.fmod 2305843009213693669 < 2305843009213693669 := Int.fmod_lt_of_pos _ (by decide)
  generalize ht : g.fmod 2305843009213693669 = t at *
  have m1 := mul_int S t 89 (mulOk_of (k := 62) (l := 10) (by unfold Lt; omega) (by unfold Lt; decide) (by decide))
  have m2 := mul_int S 733 (k : Int) (mulOk_of (k := 10) (l := 10) (by unfold Lt; decide) (by unfold Lt; omega) (by decide))
  have m3 := mul_int S 43 (if decide (c < 0) = true then 1 else 0) (mulOk_of (k := 10) (l := 10) (by unfold Lt; decide) (by unfold Lt; split <;> decide) (by decide))
  refine ⟨if g - 10 ^ 15 > 0 then g - 10 ^ 15 else 0, t * 89 + 733 * k + 43 * (if decide (c < 0) = true then 1 else 0) + 29, ?_, by split <;> omega, by split <;> omega, ?_, ?_⟩
  · refine ev_pure h rfl ?_
    show evSs C (evCall C n) t_law_dice [some (.fl (ns.map .int)), some (.int k), none, none, none] S = _
    unfold t_law_dice
    rw [ss_nx (ρ' := [some (.fl (ns.map .int)), some (.int k), some (.int c), none, none]) (S' := S) (by
        simp only [s_asg, cell, Res.bind_ok, settle_v, asT_nm, calm]
        rfl),
      ss_nx (ρ' := [some (.fl (ns.map .int)), some (.int k), some (.int c), some (.int g), none]) (S' := S) (by
        simp only [s_asg, e_bin, e_bi1, e_var, e_int, slot0, slotS, Res.bind_ok, abs_int, abs_if, p1, p2, d1, settle_v, asT_nm, calm]
        rfl),
      ss_nx (ρ' := [some (.fl (ns.map .int)), some (.int k), some (.int c), some (.int g), some (.int (t * 89 + 733 * k + 43 * (if decide (c < 0) = true then 1 else 0) + 29))]) (S' := S) (by
        simp only [s_asg, e_bin, e_bi1, e_cmp, e_var, e_int, slot0, slotS, Res.bind_ok, lt_int, opt_some, bool_int, d2, m1, m2, m3, add_int, settle_v, asT_nm, calm]
        rfl)]
    simp only [evSs, s_ret, e_lst, evEs, e_bi2, e_bin, e_int, e_var, slot0, slotS, Res.bind_ok, p3, sub_int, max_int, settle_v]
  · unfold Lt at *
    split <;> omega
  · unfold Lt
    split <;> omega
end
end Q
end
section
-- M33
set_option Elab.async false
set_option linter.all false
set_option maxRecDepth 100000
namespace Q
open PySem (Str Operator CmpOp BoolOp PyData Paired)
section
variable {C : Q.Ctx} {call : Nat → List D → Store → Res R} {S : Store}
/-- the turns with one dice -/
theorem turns_loop {r d n j : Nat} {ns : D} {k : Int} {o : Option D} (hr : SDraw C d r 400 [] (· = .bl true)) (hD : Dice S j 0) :
    ∃ o' S', evS C (evCall C (n + d)) (.for (.nm 3) (.rng1 (.int 4)) (.cons (.ife (.not (.call r (.cons (.var 2) .nil))) (.cons (.ret (.bl false)) .nil) .nil) .nil)) [some ns, some (.int k), some (.ref j), o] S = .ok (.nx [some ns, some (.int k), some (.ref j), o']) S' := by
  have eI : evI C (evCall C (n + d)) (.rng1 (.int 4)) [some ns, some (.int k), some (.ref j), o] S = .ok (.its ((List.range 4).map fun j : Nat => D.int j)) S := evI_rng1 (w := 4) (by rw [e_int]; rfl) (by decide)
  rw [s_for eI]
  obtain ⟨ρ', S', e, o', e1, d1⟩ := forL_typed (S := S) (f := fun j : Nat => D.int j) (turn := fun d' ρ S => (calm (asT C (evCall C (n + d)) (.nm 3) d' ρ S)).bind fun ρ S => evSs C (evCall C (n + d)) (.cons (.ife (.not (.call r (.cons (.var 2) .nil))) (.cons (.ret (.bl false)) .nil) .nil) .nil) ρ S) (l := List.range 4) (ρ := [some ns, some (.int k), some (.ref j), o])
    (fun done ρ S' => ∃ o', ρ = [some ns, some (.int k), some (.ref j), o'] ∧ Dice S' j (400 * done.length)) (fun done b rest ρ S1 el ⟨o1, e1, d1⟩ => by
      subst e1
      have hl : done.length + 1 ≤ 4 := by
        have := congrArg List.length el
        rw [List.length_range, List.length_append, List.length_cons] at this
        omega
      obtain ⟨_, S2, e2, rfl, x2, d2⟩ := hr.run n S1 j _ d1 (by omega)
      refine ⟨[some ns, some (.int k), some (.ref j), some (.int b)], S2, .inl ?_, _, rfl, ?_⟩
      · simp [calm, hr.fill, e2]
      · rw [List.length_append, List.length_singleton]
        exact d2.mono (by omega)) ⟨o, rfl, hD⟩
  exact ⟨o', S', by rw [e, e1]⟩
theorem start_dice {S : Store} {a s : Int} (h1 : 0 ≤ a) (h2 : 0 ≤ s) (h3 : Lt 2000 a) (h4 : Lt 200 s) : Dice (S ++ [.lst [.int a, .int s, .int 0]]) S.length 0 :=
  ⟨a, s, 0, by simp, h1, h2, by decide, by decide, h3, h4⟩
/-- the law -/
theorem law_spec {i di ri sp ev d : Nat} (h : C.fns[i]? = some (F_law di ri sp ev)) (hd : C.fns[di]? = some F_law_dice) (hr : SDraw C (d + 1) ri 400 [] (· = .bl true)) (hs : ∀ w k p, 1 ≤ w → w ≤ 8 → Ch w k p → k ≤ 100 → Sp C (d + 1) sp [.int w, row p] (.v (intsD (spotsL p)))) (he : ∀ w : Nat, 1 ≤ w → w ≤ 8 → Sp C (d + 1) ev [.int w] (.v (row (evenL w)))) (ns : List Int) (n : Nat) :
    ∃ S', evCall C (n + (d + 2)) i [.fl (ns.map .int)] S = .ok (.v (.bl true)) S' := by
  obtain ⟨m, hm, em⟩ : ∃ m : Nat, m ≤ 5 ∧ ∀ ρ S, ρ[0]? = some (some (.fl (ns.map .int))) → evE C (evCall C (n + (d + 1))) (.bi2 .max (.int 1) (.bi2 .min (.int 5) (.bi1 .len (.var 0)))) ρ S = .ok (.v (.int m)) S := by
    refine ⟨max 1 (min 5 ns.length), by omega, fun ρ S hρ => ?_⟩
    simp only [e_bi2, e_int, e_bi1, e_var, hρ, Res.bind_ok, len_fl, min_int, max_int, List.length_map]
    congr 3
    split <;> split <;> omega
  have eI : evI C (evCall C (n + (d + 1))) (.rng1 (.bi2 .max (.int 1) (.bi2 .min (.int 5) (.bi1 .len (.var 0))))) [some (.fl (ns.map .int)), none, none, none] S = .ok (.its ((List.range m).map fun j : Nat => D.int j)) S := evI_rng1 (em _ _ rfl) (by omega)
  obtain ⟨ρ', S', e, o1, o2, o3, e1⟩ := forL_typed (S := S) (f := fun j : Nat => D.int j) (turn := fun d' ρ S => (calm (asT C (evCall C (n + (d + 1))) (.nm 1) d' ρ S)).bind fun ρ S => evSs C (evCall C (n + (d + 1))) (.cons (.asg (.nm 2) (.call di (.cons (.var 0) (.cons (.var 1) .nil)))) (.cons (.for (.nm 3) (.rng1 (.int 4)) (.cons (.ife (.not (.call ri (.cons (.var 2) .nil))) (.cons (.ret (.bl false)) .nil) .nil) .nil)) .nil)) ρ S) (l := List.range m) (ρ := [some (.fl (ns.map .int)), none, none, none])
    (fun done ρ S' => ∃ o1 o2 o3, ρ = [some (.fl (ns.map .int)), o1, o2, o3]) (fun done b rest ρ S1 el ⟨o1, o2, o3, e1⟩ => by
      subst e1
      have hb : b < m := by
        have : b ∈ List.range m := by rw [el]; simp
        simpa using this
      obtain ⟨f1, f2⟩ := dice_spec hd ns b (by omega)
      obtain ⟨a, s, e2, h1, h2, h3, h4⟩ := f2 (n + d) S1
      obtain ⟨o', S2, e3⟩ := turns_loop (n := n) (ns := .fl (ns.map .int)) (k := b) (o := o3) hr (start_dice (S := S1) h1 h2 h3 h4)
      refine ⟨[some (.fl (ns.map .int)), some (.int b), some (.ref S1.length), o'], S2, .inl ?_, _, _, _, rfl⟩
      have s1 : evS C (evCall C (n + (d + 1))) (.asg (.nm 2) (.call di (.cons (.var 0) (.cons (.var 1) .nil)))) [some (.fl (ns.map .int)), some (.int b), o2, o3] S1 = .ok (.nx [some (.fl (ns.map .int)), some (.int b), some (.ref S1.length), o3]) (S1 ++ [.lst [.int a, .int s, .int 0]]) := by
        have e2' : evCall C (n + (d + 1)) di [.fl (ns.map .int), .int b] S1 = _ := e2
        simp only [s_asg, e_call, evEs, e_var, slot0, slotS, Res.bind_ok, settle_v, f1, opt_some, e2', settle_t, asT_nm, calm]
        rfl
      show (calm (asT C _ (.nm 1) _ _ S1)).bind _ = _
      rw [asT_nm]
      show evSs C (evCall C (n + (d + 1))) _ [some (.fl (ns.map .int)), some (.int b), o2, o3] S1 = _
      rw [ss_nx s1, ss_nx e3, evSs]) ⟨_, _, _, rfl⟩
  have es := (s_for eI).trans e
  rw [e1] at es
  have hc : Ch 3 2 [Rat.divInt 1 2, 0, Rat.divInt 1 2] := by
    refine ⟨rfl, ?_, ?_, ?_⟩
    · intro x hx
      simp at hx
      rcases hx with z | z | z <;> subst z
      · exact ⟨by unfold Lt; decide +kernel, by unfold Lt; decide +kernel⟩
      · exact ⟨by unfold Lt; decide +kernel, by unfold Lt; decide +kernel⟩
      · exact ⟨by unfold Lt; decide +kernel, by unfold Lt; decide +kernel⟩
    · intro x hx
      simp at hx
      rcases hx with z | z | z <;> subst z <;> decide +kernel
    · decide +kernel
  have c1 := hs 3 2 _ (by decide) (by decide) hc (by decide)
  have c2 := he 8 (by decide) (by decide)
  have r1 : D.tup [.tup [.int 1, .int 2], .tup [.int 0, .int 1], .tup [.int 1, .int 2]] = row [Rat.divInt 1 2, 0, Rat.divInt 1 2] := by
    have : num (Rat.divInt 1 2) = .tup [.int 1, .int 2] := (num_one_div (w := 2) (by decide)).symm
    unfold row
    rw [List.map_cons, List.map_cons, List.map_cons, List.map_nil, this]
    rfl
  have r2 : spotsL [Rat.divInt 1 2, 0, Rat.divInt 1 2] = [0, 2] := by decide +kernel
  have r3 : D.tup [.int 0, .int 2] = intsD [0, 2] := rfl
  have r4 : ∀ S, evBin .Mult S (.v (.tup [.tup [.int 1, .int 8]])) (.v (.int 8)) = .ok (.v (row (evenL 8))) S := fun S => by
    have := mul_repR S 8 (.tup [.int 1, .int 8]) (by decide)
    rw [show D.tup [.int 1, .int 8] = num (Rat.divInt 1 8) from num_one_div (w := 8) (by decide)] at this ⊢
    have e : row (evenL 8) = .tup (List.replicate 8 (num (Rat.divInt 1 8))) := by
      unfold row evenL
      rw [List.map_replicate]
      rfl
    rw [e]
    exact this
  have key : evSs C (evCall C (n + (d + 1))) (t_law di ri sp ev) [some (.fl (ns.map .int)), none, none, none] S = .ok (.rt (.v (.bl true))) S' := by
    unfold t_law
    rw [ss_nx es]
    have c1f := c1.fill
    have c1r := c1.run n S'
    have c2f := c2.fill
    have c2r := c2.run n S'
    have n3 : ((3 : Nat) : Int) = 3 := rfl
    have n8 : ((8 : Nat) : Int) = 8 := rfl
    rw [n3] at c1f c1r
    rw [n8] at c2f c2r
    simp only [evSs, s_ret, e_bop, evBop, e_cmp, e_call, evEs, e_int, e_tup, e_bin, Res.bind_ok, settle_v, r1, c1f, opt_some, c1r, r2, r3, eq_ints, decide_true, truth_bl, if_true, c2f, c2r, r4, eq_row]
  obtain ⟨S2, e2, _⟩ := fin_val (n := S.length) (d := .bl true) (S := S') (fun _ z => nomatch z)
  refine ⟨S2, ?_⟩
  rw [show n + (d + 2) = (n + (d + 1)) + 1 by omega, ev_call h rfl]
  show Res.bind (evSs C (evCall C (n + (d + 1))) (t_law di ri sp ev) [some (.fl (ns.map .int)), none, none, none] S) _ = _
  rw [key]
  exact e2
end
end Q
end
section
-- M34
set_option Elab.async false
set_option linter.all false
set_option maxRecDepth 100000
namespace Q
open PySem (Str Operator CmpOp BoolOp PyData Paired)
/-! ### a spec holds at a greater depth, too -/
section
variable {C : Q.Ctx} {d e i : Nat}
theorem call_up {p : Res R → Prop} {ds : List D} (z : d ≤ e) (h : ∀ n S, p (evCall C (n + d) i ds S)) (n : Nat) (S : Store) : p (evCall C (n + e) i ds S) := by
  have := h (n + (e - d)) S
  rwa [show n + (e - d) + d = n + e by omega] at this
theorem SAdd.up (h : SAdd C d i) (z : d ≤ e) : SAdd C e i := fun k l p q a b c => (h k l p q a b c).up z
theorem SMul.up (h : SMul C d i) (z : d ≤ e) : SMul C e i := fun k l p q a b c => (h k l p q a b c).up z
theorem SSub.up (h : SSub C d i) (z : d ≤ e) : SSub C e i := fun k l p q a b c => (h k l p q a b c).up z
theorem SDiv.up (h : SDiv C d i) (z : d ≤ e) : SDiv C e i := fun k l p q a b c f => (h k l p q a b c f).up z
theorem SNeg.up (h : SNeg C d i) (z : d ≤ e) : SNeg C e i := fun p => (h p).up z
theorem SLess.up (h : SLess C d i) (z : d ≤ e) : SLess C e i := fun k l p q a b c => (h k l p q a b c).up z
theorem SAddR.up (h : SAddR C d i) (z : d ≤ e) : SAddR C e i := fun k l p q a b c => (h k l p q a b c).up z
theorem SMulR.up (h : SMulR C d i) (z : d ≤ e) : SMulR C e i := fun k l p q a b c => (h k l p q a b c).up z
theorem SSum.up (h : SSum C d i) (z : d ≤ e) : SSum C e i := fun k p a b => (h k p a b).up z
theorem SDot.up (h : SDot C d i) (z : d ≤ e) : SDot C e i := fun k l p q a b c => (h k l p q a b c).up z
theorem SLed.up (h : SLed C d i) (z : d ≤ e) : SLed C e i := fun k l w p t a b c f => (h k l w p t a b c f).up z
theorem SRest.up (h : SRest C d i) (z : d ≤ e) : SRest C e i := fun w a => (h w a).up z
theorem SPos.up (h : SPos C d i) (z : d ≤ e) : SPos C e i := fun r => (h r).up z
theorem SCount.up (h : SCount C d i) (z : d ≤ e) : SCount C e i := fun v l m a b c => (h v l m a b c).up z
theorem SWidth.up (h : SWidth C d i) (z : d ≤ e) : SWidth C e i := fun w a b => (h w a b).up z
theorem SReqCh.up (h : SReqCh C d i) (z : d ≤ e) : SReqCh C e i := fun w k r a b c => (h w k r a b c).up z
theorem SReqLn.up (h : SReqLn C d i) (z : d ≤ e) : SReqLn C e i := fun w k r a b => (h w k r a b).up z
theorem SReqSh.up (h : SReqSh C d i) (z : d ≤ e) : SReqSh C e i := fun k q a b c f => (h k q a b c f).up z
theorem SUnit.up (h : SUnit C d i) (z : d ≤ e) : SUnit C e i := fun w j a => (h w j a).up z
theorem SBetw.up (h : SBetw C d i) (z : d ≤ e) : SBetw C e i := fun k s p q a b c f => (h k s p q a b c f).up z
theorem SReqT.up (h : SReqT C d i) (z : d ≤ e) : SReqT C e i := fun g w k t a b c => (h g w k t a b c).up z
theorem SBy.up (h : SBy C d i) (z : d ≤ e) : SBy C e i := fun k l w p t a b c f g => (h k l w p t a b c f g).up z
theorem SBeh.up (h : SBeh C d i) (z : d ≤ e) : SBeh C e i := fun g w k t p a b c f x y v => (h g w k t p a b c f x y v).up z
theorem SBehT.up (h : SBehT C d i) (z : d ≤ e) : SBehT C e i := fun g m w k s t a b c f x y v u o => (h g m w k s t a b c f x y v u o).up z
theorem SBet.up (h : SBet C d i) (z : d ≤ e) : SBet C e i := fun w k s p q a b c f g x y v => (h w k s p q a b c f g x y v).up z
theorem SMean.up (h : SMean C d i) (z : d ≤ e) : SMean C e i := fun w k p q a b c f g => (h w k p q a b c f g).up z
theorem SSure.up (h : SSure C d i) (z : d ≤ e) : SSure C e i := fun w j a b c => (h w j a b c).up z
theorem SEven.up (h : SEven C d i) (z : d ≤ e) : SEven C e i := fun w a b => (h w a b).up z
theorem SSpots.up (h : SSpots C d i) (z : d ≤ e) : SSpots C e i := fun w k p a b c f => (h w k p a b c f).up z
theorem SWeigh.up (h : SWeigh C d i) (z : d ≤ e) : SWeigh C e i := fun w k p a b c f g x => (h w k p a b c f g x).up z
theorem SJ.up {k : Nat} {f : D → Bool} (h : SJ C d i k f) (z : d ≤ e) : SJ C e i k f := ⟨h.fill, fun n S x a => by
  have := h.run (n + (e - d)) S x a
  rwa [show n + (e - d) + d = n + e by omega] at this⟩
theorem SJw.up {P : Nat → Store → D → Prop} {f : Nat → D → Bool} (h : SJw C d i P f) (z : d ≤ e) : SJw C e i P f := ⟨h.fill, fun n S w x a => by
  have := h.run (n + (e - d)) S w x a
  rwa [show n + (e - d) + d = n + e by omega] at this⟩
theorem SJt.up {P : Nat → Nat → Store → D → Prop} {f : Nat → Nat → D → Bool} (h : SJt C d i P f) (z : d ≤ e) : SJt C e i P f := ⟨h.fill, fun n S g w x a => by
  have := h.run (n + (e - d)) S g w x a
  rwa [show n + (e - d) + d = n + e by omega] at this⟩
theorem SRoll.up (h : SRoll C d i) (z : d ≤ e) : SRoll C e i := ⟨h.1, fun n S m j c a b f g => by
  have := h.2 (n + (e - d)) S m j c a b f g
  rwa [show n + (e - d) + d = n + e by omega] at this⟩
theorem SDraw.up {K : Nat} {as : List D} {P : D → Prop} (h : SDraw C d i K as P) (z : d ≤ e) : SDraw C e i K as P := ⟨h.fill, fun n S j c a b => by
  have := h.run (n + (e - d)) S j c a b
  rwa [show n + (e - d) + d = n + e by omega] at this⟩
theorem SNear.up (h : SNear C d i) (z : d ≤ e) : SNear C e i := ⟨h.1, fun n S j c w p a b f g x => by
  have := h.2 (n + (e - d)) S j c w p a b f g x
  rwa [show n + (e - d) + d = n + e by omega] at this⟩
/-! ### numbers of the package, and of a law -/
theorem add_of (B : Big C) {r g : Nat} (h : C.fns[i]? = some (fAdded r)) (hr : C.fns[r]? = some (fReduced g)) (hg : C.fns[g]? = some fGcd) : SAdd C 3 i := fun _ _ _ _ a b c => Sp.of h rfl fun _ _ => added_spec B h hr hg a b (by omega)
theorem mul_of (B : Big C) {r g : Nat} (h : C.fns[i]? = some (fMultiplied r)) (hr : C.fns[r]? = some (fReduced g)) (hg : C.fns[g]? = some fGcd) : SMul C 3 i := fun _ _ _ _ a b c => Sp.of h rfl fun _ _ => multiplied_spec B h hr hg a b (by omega)
theorem div_of (B : Big C) {r g : Nat} (h : C.fns[i]? = some (fDivided r)) (hr : C.fns[r]? = some (fReduced g)) (hg : C.fns[g]? = some fGcd) : SDiv C 3 i := fun _ _ _ _ a b f c => Sp.of h rfl fun _ _ => divided_spec B h hr hg a b f (by omega)
theorem neg_of (h : C.fns[i]? = some fOpposite) : SNeg C 1 i := fun p => Sp.of h rfl fun _ _ => opposite_spec h p
theorem ladd_of (B : Big C) {r : Nat} (h : C.fns[i]? = some (fPlus r)) (hr : C.fns[r]? = some fFr) : SAdd C 2 i := fun _ _ _ _ a b c => Sp.of h rfl fun _ _ => plus_spec B h hr a b c
theorem lsub_of (B : Big C) {r : Nat} (h : C.fns[i]? = some (fMinus r)) (hr : C.fns[r]? = some fFr) : SSub C 2 i := fun _ _ _ _ a b c => Sp.of h rfl fun _ _ => minus_spec B h hr a b c
theorem lmul_of (B : Big C) {r : Nat} (h : C.fns[i]? = some (fTimes r)) (hr : C.fns[r]? = some fFr) : SMul C 2 i := fun _ _ _ _ a b c => Sp.of h rfl fun _ _ => times_spec B h hr a b c
theorem less_of (h : C.fns[i]? = some fUnder) : SLess C 1 i := fun _ _ _ _ a b c => Sp.of h rfl fun _ _ => under_spec h a b c
end
end Q
end
section
-- X35T
set_option Elab.async false
set_option linter.all false
set_option maxRecDepth 100000
namespace X35
open PySem Q
/-- is_integer -/
def b0 : Ss := (.cons (.ret (.bop .And (.cons (.isi (.var 0) .int) (.cons (.not (.isi (.var 0) .bool)) .nil)))) .nil)
def f0 : FD := ⟨"is_integer", ⟨1, 1, [], b0⟩, ["value"]⟩
/-- common_divisor -/
def b1 : Ss := (.cons (.par2 0 1 (.bi1 .abs (.var 0)) (.bi1 .abs (.var 1))) (.cons (.whl (.cmp .Gt (.var 1) (.int 0)) (.cons (.par2 0 1 (.var 1) (.bin .Mod (.var 0) (.var 1))) .nil)) (.cons (.ret (.var 0)) .nil)))
def f1 : FD := ⟨"common_divisor", ⟨2, 2, [], b1⟩, ["one", "other"]⟩
/-- is_number -/
def b2 : Ss := (.cons (.ife (.bop .Or (.cons (.not (.isi (.var 0) .tuple)) (.cons (.cmp .NotEq (.bi1 .len (.var 0)) (.int 2)) (.cons (.not (.bi1 .all (.lc (.call 0 (.cons (.var 1) .nil)) (.nm 1) (.seq (.var 0)) .no 0))) .nil)))) (.cons (.ret (.bl false)) .nil) .nil) (.cons (.ret (.bop .And (.cons (.cmp .GtE (.idx (.var 0) (.int 1)) (.int 1)) (.cons (.cmp .Eq (.call 1 (.cons (.idx (.var 0) (.int 0)) (.cons (.idx (.var 0) (.int 1)) .nil))) (.int 1)) .nil)))) .nil))
def f2 : FD := ⟨"is_number", ⟨1, 2, [], b2⟩, ["value", "one"]⟩
/-- reduced -/
def b3 : Ss := (.cons (.ife (.cmp .Lt (.var 1) (.int 0)) (.cons (.par2 0 1 (.bin .Sub (.int 0) (.var 0)) (.bin .Sub (.int 0) (.var 1))) .nil) .nil) (.cons (.asg (.nm 2) (.call 1 (.cons (.var 0) (.cons (.var 1) .nil)))) (.cons (.ret (.tup (.cons (.bin .FloorDiv (.var 0) (.var 2)) (.cons (.bin .FloorDiv (.var 1) (.var 2)) .nil)))) .nil)))
def f3 : FD := ⟨"reduced", ⟨2, 3, [], b3⟩, ["top", "bottom", "divisor"]⟩
/-- require_count -/
def b4 : Ss := (.cons (.ife (.bop .Or (.cons (.not (.call 0 (.cons (.var 0) .nil))) (.cons (.not (.chn .LtE .LtE (.var 1) (.var 0) (.var 2))) .nil))) (.cons (.hole 0) .nil) .nil) .nil)
def f4 : FD := ⟨"require_count", ⟨3, 3, [.int 0, .int 60], b4⟩, ["value", "least", "most"]⟩
/-- added -/
def b5 : Ss := (.cons (.ife (.chn .Eq .Eq (.idx (.var 0) (.int 1)) (.idx (.var 1) (.int 1)) (.int 1)) (.cons (.ret (.tup (.cons (.bin .Add (.idx (.var 0) (.int 0)) (.idx (.var 1) (.int 0))) (.cons (.int 1) .nil)))) .nil) .nil) (.cons (.ret (.call 3 (.cons (.bin .Add (.bin .Mult (.idx (.var 0) (.int 0)) (.idx (.var 1) (.int 1))) (.bin .Mult (.idx (.var 1) (.int 0)) (.idx (.var 0) (.int 1)))) (.cons (.bin .Mult (.idx (.var 0) (.int 1)) (.idx (.var 1) (.int 1))) .nil)))) .nil))
def f5 : FD := ⟨"added", ⟨2, 2, [], b5⟩, ["one", "other"]⟩
/-- multiplied -/
def b6 : Ss := (.cons (.ife (.chn .Eq .Eq (.idx (.var 0) (.int 1)) (.idx (.var 1) (.int 1)) (.int 1)) (.cons (.ret (.tup (.cons (.bin .Mult (.idx (.var 0) (.int 0)) (.idx (.var 1) (.int 0))) (.cons (.int 1) .nil)))) .nil) .nil) (.cons (.ret (.call 3 (.cons (.bin .Mult (.idx (.var 0) (.int 0)) (.idx (.var 1) (.int 0))) (.cons (.bin .Mult (.idx (.var 0) (.int 1)) (.idx (.var 1) (.int 1))) .nil)))) .nil))
def f6 : FD := ⟨"multiplied", ⟨2, 2, [], b6⟩, ["one", "other"]⟩
/-- opposite -/
def b7 : Ss := (.cons (.ret (.tup (.cons (.bin .Sub (.int 0) (.idx (.var 0) (.int 0))) (.cons (.idx (.var 0) (.int 1)) .nil)))) .nil)
def f7 : FD := ⟨"opposite", ⟨1, 1, [], b7⟩, ["one"]⟩
/-- divided -/
def b8 : Ss := (.cons (.ret (.call 3 (.cons (.bin .Mult (.idx (.var 0) (.int 0)) (.idx (.var 1) (.int 1))) (.cons (.bin .Mult (.idx (.var 0) (.int 1)) (.idx (.var 1) (.int 0))) .nil)))) .nil)
def f8 : FD := ⟨"divided", ⟨2, 2, [], b8⟩, ["one", "other"]⟩
/-- sum_of -/
def b9 : Ss := (.cons (.asg (.nm 1) (.glb 0)) (.cons (.for (.nm 2) (.seq (.var 0)) (.cons (.asg (.nm 1) (.call 5 (.cons (.var 1) (.cons (.var 2) .nil)))) .nil)) (.cons (.ret (.var 1)) .nil)))
def f9 : FD := ⟨"sum_of", ⟨1, 3, [], b9⟩, ["numbers", "found", "one"]⟩
/-- is_plain_row -/
def b10 : Ss := (.cons (.ret (.bop .And (.cons (.isi (.var 1) .tuple) (.cons (.cmp .Eq (.bi1 .len (.var 1)) (.var 0)) (.cons (.bi1 .all (.lc (.call 2 (.cons (.var 2) .nil)) (.nm 2) (.seq (.var 1)) .no 0)) .nil))))) .nil)
def f10 : FD := ⟨"is_plain_row", ⟨2, 3, [], b10⟩, ["width", "value", "one"]⟩
/-- rest_row -/
def b11 : Ss := (.cons (.ret (.bin .Mult (.tup (.cons (.glb 0) .nil)) (.var 0))) .nil)
def f11 : FD := ⟨"rest_row", ⟨1, 1, [], b11⟩, ["width"]⟩
/-- unit_row -/
def b12 : Ss := (.cons (.ret (.bi1 .tuple (.lc (.ife (.cmp .Eq (.var 2) (.var 1)) (.glb 1) (.glb 0)) (.nm 2) (.rng1 (.var 0)) .no 0))) .nil)
def f12 : FD := ⟨"unit_row", ⟨2, 3, [], b12⟩, ["width", "index", "place"]⟩
/-- sum_of_rows -/
def b13 : Ss := (.cons (.ret (.bi1 .tuple (.lc (.call 5 (.cons (.var 2) (.cons (.var 3) .nil))) (.tp (.cons (.nm 2) (.cons (.nm 3) .nil))) (.zip (.var 0) (.var 1)) .no 0))) .nil)
def f13 : FD := ⟨"sum_of_rows", ⟨2, 4, [], b13⟩, ["one", "other", "left", "right"]⟩
/-- times_row -/
def b14 : Ss := (.cons (.ret (.bi1 .tuple (.lc (.ife (.cmp .NotEq (.var 2) (.glb 0)) (.call 6 (.cons (.var 0) (.cons (.var 2) .nil))) (.glb 0)) (.nm 2) (.seq (.var 1)) .no 0))) .nil)
def f14 : FD := ⟨"times_row", ⟨2, 3, [], b14⟩, ["number", "row", "one"]⟩
/-- product_of -/
def b15 : Ss := (.cons (.asg (.nm 2) (.glb 0)) (.cons (.for (.tp (.cons (.nm 3) (.cons (.nm 4) .nil))) (.zip (.var 0) (.var 1)) (.cons (.ife (.bop .And (.cons (.cmp .NotEq (.var 3) (.glb 0)) (.cons (.cmp .NotEq (.var 4) (.glb 0)) .nil))) (.cons (.asg (.nm 2) (.call 5 (.cons (.var 2) (.cons (.call 6 (.cons (.var 3) (.cons (.var 4) .nil))) .nil)))) .nil) .nil) .nil)) (.cons (.ret (.var 2)) .nil)))
def f15 : FD := ⟨"product_of", ⟨2, 5, [], b15⟩, ["one", "other", "found", "left", "right"]⟩
/-- led_told -/
def b16 : Ss := (.cons (.asg (.nm 3) (.call 11 (.cons (.var 0) .nil))) (.cons (.for (.tp (.cons (.nm 4) (.cons (.nm 5) .nil))) (.zip (.var 2) (.var 1)) (.cons (.ife (.cmp .NotEq (.var 4) (.glb 0)) (.cons (.asg (.nm 3) (.call 13 (.cons (.var 3) (.cons (.call 14 (.cons (.var 4) (.cons (.var 5) .nil))) .nil)))) .nil) .nil) .nil)) (.cons (.ret (.var 3)) .nil)))
def f16 : FD := ⟨"led_told", ⟨3, 6, [], b16⟩, ["width", "table", "told", "found", "number", "line"]⟩
/-- are_from_nought -/
def b17 : Ss := (.cons (.ret (.bi1 .all (.lc (.cmp .GtE (.idx (.var 1) (.int 0)) (.int 0)) (.nm 1) (.seq (.var 0)) .no 0))) .nil)
def f17 : FD := ⟨"are_from_nought", ⟨1, 2, [], b17⟩, ["row", "number"]⟩
/-- is_plain_mix -/
def b18 : Ss := (.cons (.ret (.bop .And (.cons (.call 10 (.cons (.var 0) (.cons (.var 1) .nil))) (.cons (.call 17 (.cons (.var 1) .nil)) .nil)))) .nil)
def f18 : FD := ⟨"is_plain_mix", ⟨2, 2, [], b18⟩, ["width", "value"]⟩
/-- require_width -/
def b19 : Ss := (.cons (.expr (.call 4 (.cons (.var 0) (.cons (.int 1) (.cons (.glb 2) .nil))))) .nil)
def f19 : FD := ⟨"require_width", ⟨1, 1, [], b19⟩, ["width"]⟩
/-- is_plain_chances -/
def b20 : Ss := (.cons (.ret (.bop .And (.cons (.call 18 (.cons (.var 0) (.cons (.var 1) .nil))) (.cons (.cmp .Eq (.call 9 (.cons (.var 1) .nil)) (.glb 1)) .nil)))) .nil)
def f20 : FD := ⟨"is_plain_chances", ⟨2, 2, [], b20⟩, ["width", "value"]⟩
/-- are_chance_rows -/
def b21 : Ss := (.cons (.ife (.bop .Or (.cons (.not (.isi (.var 2) .tuple)) (.cons (.cmp .NotEq (.bi1 .len (.var 2)) (.var 0)) .nil))) (.cons (.ret (.bl false)) .nil) .nil) (.cons (.ret (.bi1 .all (.lc (.call 20 (.cons (.var 1) (.cons (.var 3) .nil))) (.nm 3) (.seq (.var 2)) .no 0))) .nil))
def f21 : FD := ⟨"are_chance_rows", ⟨3, 4, [], b21⟩, ["height", "width", "value", "row"]⟩
/-- require_chances -/
def b22 : Ss := (.cons (.ife (.not (.call 20 (.cons (.var 0) (.cons (.var 1) .nil)))) (.cons (.hole 0) .nil) .nil) .nil)
def f22 : FD := ⟨"require_chances", ⟨2, 2, [], b22⟩, ["width", "value"]⟩
/-- require_chance_table -/
def b23 : Ss := (.cons (.ife (.not (.call 21 (.cons (.var 0) (.cons (.var 1) (.cons (.var 2) .nil))))) (.cons (.hole 0) .nil) .nil) .nil)
def f23 : FD := ⟨"require_chance_table", ⟨3, 3, [], b23⟩, ["height", "width", "value"]⟩
/-- require_line -/
def b24 : Ss := (.cons (.ife (.not (.call 10 (.cons (.var 0) (.cons (.var 1) .nil)))) (.cons (.hole 0) .nil) .nil) .nil)
def f24 : FD := ⟨"require_line", ⟨2, 2, [], b24⟩, ["width", "value"]⟩
/-- require_share -/
def b25 : Ss := (.cons (.ife (.bop .Or (.cons (.not (.call 2 (.cons (.var 0) .nil))) (.cons (.not (.chn .LtE .LtE (.int 0) (.idx (.var 0) (.int 0)) (.idx (.var 0) (.int 1)))) .nil))) (.cons (.hole 0) .nil) .nil) .nil)
def f25 : FD := ⟨"require_share", ⟨1, 1, [], b25⟩, ["value"]⟩
/-- behind_by -/
def b26 : Ss := (.cons (.ret (.call 16 (.cons (.bi1 .len (.idx (.var 0) (.int 0))) (.cons (.var 0) (.cons (.var 1) .nil))))) .nil)
def f26 : FD := ⟨"behind_by", ⟨2, 2, [], b26⟩, ["table", "chances"]⟩
/-- between_by -/
def b27 : Ss := (.cons (.ret (.call 13 (.cons (.call 14 (.cons (.var 0) (.cons (.var 1) .nil))) (.cons (.call 14 (.cons (.call 5 (.cons (.glb 1) (.cons (.call 7 (.cons (.var 0) .nil)) .nil))) (.cons (.var 2) .nil))) .nil)))) .nil)
def f27 : FD := ⟨"between_by", ⟨3, 3, [], b27⟩, ["share", "one", "other"]⟩
/-- weighed_by -/
def b28 : Ss := (.cons (.ret (.call 14 (.cons (.call 8 (.cons (.glb 1) (.cons (.call 9 (.cons (.var 0) .nil)) .nil))) (.cons (.var 0) .nil)))) .nil)
def f28 : FD := ⟨"weighed_by", ⟨1, 1, [], b28⟩, ["row"]⟩
/-- is_chances -/
def b29 : Ss := (.cons (.expr (.call 19 (.cons (.var 0) .nil))) (.cons (.ret (.call 20 (.cons (.var 0) (.cons (.var 1) .nil)))) .nil))
def f29 : FD := ⟨"is_chances", ⟨2, 2, [], b29⟩, ["width", "value"]⟩
/-- is_chance_table -/
def b30 : Ss := (.cons (.expr (.call 19 (.cons (.var 0) .nil))) (.cons (.expr (.call 19 (.cons (.var 1) .nil))) (.cons (.ret (.call 21 (.cons (.var 0) (.cons (.var 1) (.cons (.var 2) .nil))))) .nil)))
def f30 : FD := ⟨"is_chance_table", ⟨3, 3, [], b30⟩, ["height", "width", "value"]⟩
/-- sure_chances -/
def b31 : Ss := (.cons (.expr (.call 19 (.cons (.var 0) .nil))) (.cons (.ife (.bop .Or (.cons (.not (.call 0 (.cons (.var 1) .nil))) (.cons (.not (.chn .LtE .Lt (.int 0) (.var 1) (.var 0))) .nil))) (.cons (.hole 0) .nil) .nil) (.cons (.ret (.call 12 (.cons (.var 0) (.cons (.var 1) .nil)))) .nil)))
def f31 : FD := ⟨"sure_chances", ⟨2, 2, [], b31⟩, ["width", "index"]⟩
/-- even_by -/
def b32 : Ss := (.cons (.ret (.bin .Mult (.tup (.cons (.tup (.cons (.int 1) (.cons (.var 0) .nil))) .nil)) (.var 0))) .nil)
def f32 : FD := ⟨"even_by", ⟨1, 1, [], b32⟩, ["width"]⟩
/-- even_chances -/
def b33 : Ss := (.cons (.expr (.call 19 (.cons (.var 0) .nil))) (.cons (.ret (.call 32 (.cons (.var 0) .nil))) .nil))
def f33 : FD := ⟨"even_chances", ⟨1, 1, [], b33⟩, ["width"]⟩
/-- between -/
def b34 : Ss := (.cons (.expr (.call 19 (.cons (.var 0) .nil))) (.cons (.expr (.call 25 (.cons (.var 1) .nil))) (.cons (.expr (.call 22 (.cons (.var 0) (.cons (.var 2) .nil)))) (.cons (.expr (.call 22 (.cons (.var 0) (.cons (.var 3) .nil)))) (.cons (.ret (.call 27 (.cons (.var 1) (.cons (.var 2) (.cons (.var 3) .nil))))) .nil)))))
def f34 : FD := ⟨"between", ⟨4, 4, [], b34⟩, ["width", "share", "chances", "other"]⟩
/-- spots -/
def b35 : Ss := (.cons (.expr (.call 19 (.cons (.var 0) .nil))) (.cons (.expr (.call 22 (.cons (.var 0) (.cons (.var 1) .nil)))) (.cons (.ret (.bi1 .tuple (.lc (.var 2) (.tp (.cons (.nm 2) (.cons (.nm 3) .nil))) (.enum (.var 1)) (.so (.cmp .Gt (.idx (.var 3) (.int 0)) (.int 0))) 0))) .nil)))
def f35 : FD := ⟨"spots", ⟨2, 4, [], b35⟩, ["width", "chances", "index", "one"]⟩
/-- mean -/
def b36 : Ss := (.cons (.expr (.call 19 (.cons (.var 0) .nil))) (.cons (.expr (.call 22 (.cons (.var 0) (.cons (.var 1) .nil)))) (.cons (.expr (.call 24 (.cons (.var 0) (.cons (.var 2) .nil)))) (.cons (.ret (.call 15 (.cons (.var 1) (.cons (.var 2) .nil)))) .nil))))
def f36 : FD := ⟨"mean", ⟨3, 3, [], b36⟩, ["width", "chances", "line"]⟩
/-- behind_table -/
def b37 : Ss := (.cons (.expr (.call 19 (.cons (.var 0) .nil))) (.cons (.expr (.call 19 (.cons (.var 1) .nil))) (.cons (.expr (.call 23 (.cons (.var 0) (.cons (.var 1) (.cons (.var 2) .nil))))) (.cons (.expr (.call 22 (.cons (.var 0) (.cons (.var 3) .nil)))) (.cons (.ret (.call 26 (.cons (.var 2) (.cons (.var 3) .nil)))) .nil)))))
def f37 : FD := ⟨"behind_table", ⟨4, 4, [], b37⟩, ["height", "width", "table", "chances"]⟩
/-- table_behind -/
def b38 : Ss := (.cons (.expr (.call 19 (.cons (.var 0) .nil))) (.cons (.expr (.call 19 (.cons (.var 1) .nil))) (.cons (.expr (.call 19 (.cons (.var 2) .nil))) (.cons (.expr (.call 23 (.cons (.var 0) (.cons (.var 1) (.cons (.var 3) .nil))))) (.cons (.expr (.call 23 (.cons (.var 1) (.cons (.var 2) (.cons (.var 4) .nil))))) (.cons (.ret (.bi1 .tuple (.lc (.call 26 (.cons (.var 4) (.cons (.var 5) .nil))) (.nm 5) (.seq (.var 3)) .no 0))) .nil))))))
def f38 : FD := ⟨"table_behind", ⟨5, 6, [], b38⟩, ["height", "middle", "width", "one", "other", "row"]⟩
/-- weighed -/
def b39 : Ss := (.cons (.expr (.call 19 (.cons (.var 0) .nil))) (.cons (.ife (.not (.call 18 (.cons (.var 0) (.cons (.var 1) .nil)))) (.cons (.hole 0) .nil) .nil) (.cons (.ife (.bi1 .all (.lc (.cmp .Eq (.idx (.var 2) (.int 0)) (.int 0)) (.nm 2) (.seq (.var 1)) .no 0)) (.cons (.hole 1) .nil) .nil) (.cons (.ret (.call 28 (.cons (.var 1) .nil))) .nil))))
def f39 : FD := ⟨"weighed", ⟨2, 3, [], b39⟩, ["width", "row", "one"]⟩
/-- _law_dice -/
def b40 : Ss := (.cons (.asg (.nm 2) (.ife (.cmp .Lt (.var 1) (.bi1 .len (.var 0))) (.bi1 .int (.idx (.var 0) (.var 1))) (.bin .Add (.bin .Mult (.int 173) (.var 1)) (.int 59)))) (.cons (.asg (.nm 3) (.bin .Mod (.bi1 .abs (.var 2)) (.bin .Pow (.bin .Pow (.int 10) (.int 47)) (.int 7)))) (.cons (.asg (.nm 4) (.bin .Add (.bin .Add (.bin .Add (.bin .Mult (.bin .Mod (.var 3) (.int 2305843009213693669)) (.int 89)) (.bin .Mult (.int 733) (.var 1))) (.bin .Mult (.int 43) (.bi1 .int (.cmp .Lt (.var 2) (.int 0))))) (.int 29))) (.cons (.ret (.lst (.cons (.bi2 .max (.int 0) (.bin .Sub (.var 3) (.bin .Pow (.int 10) (.int 15)))) (.cons (.var 4) (.cons (.int 0) .nil))))) .nil))))
def f40 : FD := ⟨"_law_dice", ⟨2, 5, [], b40⟩, ["script", "spot", "cell", "great", "seed"]⟩
/-- _law_roll -/
def b41 : Ss := (.cons (.ife (.cmp .Gt (.idx (.var 0) (.int 0)) (.int 0)) (.cons (.asg (.tp (.cons (.sb (.var 0) (.int 0)) (.cons (.nm 4) .nil))) (.bi2 .divmod (.idx (.var 0) (.int 0)) (.var 1))) (.cons (.ret (.bi1 .int (.var 4))) .nil)) .nil) (.cons (.asg (.sb (.var 0) (.int 2)) (.bin .Add (.idx (.var 0) (.int 2)) (.int 1))) (.cons (.asg (.nm 2) (.bin .Mod (.bin .Add (.idx (.var 0) (.int 1)) (.bin .Mult (.int 67867967) (.idx (.var 0) (.int 2)))) (.int 2305843009213693613))) (.cons (.asg (.nm 3) (.bin .Add (.bin .Mult (.bin .Mod (.bin .Add (.bin .Mult (.var 2) (.var 2)) (.bin .Mult (.int 211) (.idx (.var 0) (.int 2)))) (.int 2305843009213693487)) (.int 49979693)) (.var 2))) (.cons (.ret (.bin .Mod (.bi1 .int (.bin .FloorDiv (.var 3) (.int 70001))) (.var 1))) .nil)))))
def f41 : FD := ⟨"_law_roll", ⟨2, 5, [], b41⟩, ["dice", "total", "one", "two", "found"]⟩
/-- _law_pick -/
def b42 : Ss := (.cons (.ret (.idx (.var 1) (.call 41 (.cons (.var 0) (.cons (.bi1 .len (.var 1)) .nil))))) .nil)
def f42 : FD := ⟨"_law_pick", ⟨2, 2, [], b42⟩, ["dice", "things"]⟩
/-- _law_fr -/
def b43 : Ss := (.cons (.par2 3 4 (.bi1 .abs (.var 1)) (.bi1 .abs (.var 0))) (.cons (.whl (.cmp .Gt (.var 4) (.int 0)) (.cons (.par2 3 4 (.var 4) (.bin .Mod (.var 3) (.var 4))) .nil)) (.cons (.asg (.nm 2) (.ife (.cmp .Gt (.var 1) (.int 0)) (.int 1) (.neg (.int 1)))) (.cons (.ret (.tup (.cons (.bin .FloorDiv (.bin .Mult (.var 2) (.var 0)) (.var 3)) (.cons (.bin .FloorDiv (.bin .Mult (.var 2) (.var 1)) (.var 3)) .nil)))) .nil))))
def f43 : FD := ⟨"_law_fr", ⟨2, 5, [], b43⟩, ["top", "under", "sign", "one", "other"]⟩
/-- _law_plus -/
def b44 : Ss := (.cons (.ret (.call 43 (.cons (.bin .Add (.bin .Mult (.idx (.var 0) (.int 0)) (.idx (.var 1) (.int 1))) (.bin .Mult (.idx (.var 1) (.int 0)) (.idx (.var 0) (.int 1)))) (.cons (.bin .Mult (.idx (.var 1) (.int 1)) (.idx (.var 0) (.int 1))) .nil)))) .nil)
def f44 : FD := ⟨"_law_plus", ⟨2, 2, [], b44⟩, ["one", "other"]⟩
/-- _law_minus -/
def b45 : Ss := (.cons (.ret (.call 43 (.cons (.bin .Sub (.bin .Mult (.idx (.var 0) (.int 0)) (.idx (.var 1) (.int 1))) (.bin .Mult (.idx (.var 1) (.int 0)) (.idx (.var 0) (.int 1)))) (.cons (.bin .Mult (.idx (.var 1) (.int 1)) (.idx (.var 0) (.int 1))) .nil)))) .nil)
def f45 : FD := ⟨"_law_minus", ⟨2, 2, [], b45⟩, ["one", "other"]⟩
/-- _law_times -/
def b46 : Ss := (.cons (.ret (.call 43 (.cons (.bin .Mult (.idx (.var 1) (.int 0)) (.idx (.var 0) (.int 0))) (.cons (.bin .Mult (.idx (.var 1) (.int 1)) (.idx (.var 0) (.int 1))) .nil)))) .nil)
def f46 : FD := ⟨"_law_times", ⟨2, 2, [], b46⟩, ["one", "other"]⟩
/-- _law_is_under -/
def b47 : Ss := (.cons (.ret (.cmp .Lt (.bin .Mult (.idx (.var 0) (.int 0)) (.idx (.var 1) (.int 1))) (.bin .Mult (.idx (.var 1) (.int 0)) (.idx (.var 0) (.int 1))))) .nil)
def f47 : FD := ⟨"_law_is_under", ⟨2, 2, [], b47⟩, ["one", "other"]⟩
/-- _law_dot -/
def b48 : Ss := (.cons (.asg (.nm 2) (.tup (.cons (.int 0) (.cons (.int 1) .nil)))) (.cons (.for (.tp (.cons (.nm 3) (.cons (.nm 4) .nil))) (.zip (.var 0) (.var 1)) (.cons (.ife (.cmp .NotIn (.int 0) (.tup (.cons (.idx (.var 3) (.int 0)) (.cons (.idx (.var 4) (.int 0)) .nil)))) (.cons (.asg (.nm 2) (.call 44 (.cons (.var 2) (.cons (.call 46 (.cons (.var 3) (.cons (.var 4) .nil))) .nil)))) .nil) .nil) .nil)) (.cons (.ret (.var 2)) .nil)))
def f48 : FD := ⟨"_law_dot", ⟨2, 5, [], b48⟩, ["row", "line", "total", "one", "other"]⟩
/-- _law_is_number -/
def b49 : Ss := (.cons (.ife (.bop .Or (.cons (.not (.isi (.var 0) .tuple)) (.cons (.cmp .NotEq (.bi1 .len (.var 0)) (.int 2)) .nil))) (.cons (.ret (.bl false)) .nil) .nil) (.cons (.for (.nm 1) (.seq (.var 0)) (.cons (.ife (.bop .Or (.cons (.not (.isi (.var 1) .int)) (.cons (.isi (.var 1) .bool) .nil))) (.cons (.ret (.bl false)) .nil) .nil) .nil)) (.cons (.ret (.bop .And (.cons (.cmp .Gt (.idx (.var 0) (.int 1)) (.int 0)) (.cons (.cmp .Eq (.call 43 (.cons (.idx (.var 0) (.int 0)) (.cons (.idx (.var 0) (.int 1)) .nil))) (.var 0)) .nil)))) .nil)))
def f49 : FD := ⟨"_law_is_number", ⟨1, 2, [], b49⟩, ["value", "one"]⟩
/-- _law_is_row -/
def b50 : Ss := (.cons (.ife (.bop .Or (.cons (.not (.isi (.var 1) .tuple)) (.cons (.cmp .NotEq (.bi1 .len (.var 1)) (.var 0)) .nil))) (.cons (.ret (.bl false)) .nil) .nil) (.cons (.ret (.cmp .Eq (.lc (.var 2) (.nm 2) (.seq (.var 1)) (.so (.not (.call 49 (.cons (.var 2) .nil)))) 0) (.lst .nil))) .nil))
def f50 : FD := ⟨"_law_is_row", ⟨2, 3, [], b50⟩, ["width", "value", "one"]⟩
/-- _law_sum_of -/
def b51 : Ss := (.cons (.ret (.bi1 .tuple (.lc (.call 44 (.cons (.var 2) (.cons (.var 3) .nil))) (.tp (.cons (.nm 2) (.cons (.nm 3) .nil))) (.zip (.var 0) (.var 1)) .no 0))) .nil)
def f51 : FD := ⟨"_law_sum_of", ⟨2, 4, [], b51⟩, ["one", "other", "left", "right"]⟩
/-- _law_by -/
def b52 : Ss := (.cons (.ret (.bi1 .tuple (.lc (.call 46 (.cons (.var 0) (.cons (.var 2) .nil))) (.nm 2) (.seq (.var 1)) .no 0))) .nil)
def f52 : FD := ⟨"_law_by", ⟨2, 3, [], b52⟩, ["number", "row", "one"]⟩
/-- _law_sr_unit -/
def b53 : Ss := (.cons (.ret (.bi1 .tuple (.lc (.tup (.cons (.bi1 .int (.cmp .Eq (.var 2) (.var 1))) (.cons (.int 1) .nil))) (.nm 2) (.rng1 (.var 0)) .no 0))) .nil)
def f53 : FD := ⟨"_law_sr_unit", ⟨2, 3, [], b53⟩, ["width", "spot", "at"]⟩
/-- _law_sr_number -/
def b54 : Ss := (.cons (.ret (.call 43 (.cons (.bin .Sub (.call 41 (.cons (.var 0) (.cons (.int 13) .nil))) (.int 6)) (.cons (.call 42 (.cons (.var 0) (.cons (.lst (.cons (.int 1) (.cons (.int 1) (.cons (.int 2) (.cons (.int 3) .nil))))) .nil))) .nil)))) .nil)
def f54 : FD := ⟨"_law_sr_number", ⟨1, 1, [], b54⟩, ["dice"]⟩
/-- _law_sr_row -/
def b55 : Ss := (.cons (.ret (.bi1 .tuple (.lc (.call 54 (.cons (.var 0) .nil)) (.nm 2) (.rng1 (.var 1)) .no 0))) .nil)
def f55 : FD := ⟨"_law_sr_row", ⟨2, 3, [], b55⟩, ["dice", "width", "at"]⟩
/-- _law_sr_chances -/
def b56 : Ss := (.cons (.asg (.nm 2) (.lc (.call 41 (.cons (.var 0) (.cons (.int 4) .nil))) (.nm 6) (.rng1 (.var 1)) .no 0)) (.cons (.asg (.tp (.cons (.nm 4) (.cons (.nm 5) .nil))) (.tup (.cons (.call 41 (.cons (.var 0) (.cons (.var 1) .nil))) (.cons (.int 0) .nil)))) (.cons (.asg (.sb (.var 2) (.var 4)) (.bin .Add (.idx (.var 2) (.var 4)) (.int 1))) (.cons (.for (.nm 3) (.seq (.var 2)) (.cons (.asg (.nm 5) (.bin .Add (.var 5) (.var 3))) .nil)) (.cons (.ret (.bi1 .tuple (.lc (.call 43 (.cons (.var 3) (.cons (.var 5) .nil))) (.nm 3) (.seq (.var 2)) .no 1))) .nil)))))
def f56 : FD := ⟨"_law_sr_chances", ⟨2, 7, [], b56⟩, ["dice", "width", "found", "one", "spot", "total", "at"]⟩
/-- _law_sr_is_chances -/
def b57 : Ss := (.cons (.ife (.bop .Or (.cons (.not (.call 50 (.cons (.var 0) (.cons (.var 1) .nil)))) (.cons (.cmp .NotEq (.lc (.int 1) (.nm 3) (.seq (.var 1)) (.so (.cmp .Lt (.idx (.var 3) (.int 0)) (.int 0))) 0) (.lst .nil)) .nil))) (.cons (.ret (.bl false)) .nil) .nil) (.cons (.asg (.nm 2) (.tup (.cons (.int 0) (.cons (.int 1) .nil)))) (.cons (.for (.nm 3) (.seq (.var 1)) (.cons (.asg (.nm 2) (.call 44 (.cons (.var 2) (.cons (.var 3) .nil)))) .nil)) (.cons (.ret (.cmp .Eq (.var 2) (.tup (.cons (.int 1) (.cons (.int 1) .nil))))) .nil))))
def f57 : FD := ⟨"_law_sr_is_chances", ⟨2, 4, [], b57⟩, ["width", "value", "total", "one"]⟩
/-- _law_is_table -/
def b58 : Ss := (.cons (.ife (.bop .Or (.cons (.not (.isi (.var 2) .tuple)) (.cons (.cmp .NotEq (.bi1 .len (.var 2)) (.var 0)) .nil))) (.cons (.ret (.bl false)) .nil) .nil) (.cons (.ret (.cmp .Eq (.lc (.int 1) (.nm 3) (.seq (.var 2)) (.so (.not (.call 57 (.cons (.var 1) (.cons (.var 3) .nil))))) 0) (.lst .nil))) .nil))
def f58 : FD := ⟨"_law_is_table", ⟨3, 4, [], b58⟩, ["height", "width", "value", "row"]⟩
/-- _law_near -/
def b59 : Ss := (.cons (.asg (.nm 2) (.call 41 (.cons (.var 0) (.cons (.bi1 .len (.var 1)) .nil)))) (.cons (.asg (.nm 3) (.lst (.cons (.var 1) (.cons (.bi1 .list (.var 1)) (.cons (.slc (.var 1) (.so (.int 1)) .no) (.cons (.bin .Add (.var 1) (.tup (.cons (.tup (.cons (.int 0) (.cons (.int 1) .nil))) .nil))) (.cons .non (.cons (.tup .nil) (.cons (.int 0) (.cons .dct0 .nil)))))))))) (.cons (.asg (.nm 4) (.idx (.var 1) (.var 2))) (.cons (.for (.nm 5) (.seq (.tup (.cons (.tup (.cons (.int 0) (.cons (.int 1) .nil))) (.cons (.tup (.cons (.int 1) (.cons (.int 1) .nil))) (.cons (.call 44 (.cons (.var 4) (.cons (.tup (.cons (.int 1) (.cons (.int 9) .nil))) .nil))) (.cons (.call 45 (.cons (.var 4) (.cons (.tup (.cons (.int 1) (.cons (.int 1) .nil))) .nil))) (.cons (.tup (.cons (.int 2) (.cons (.int 2) .nil))) (.cons (.int 1) (.cons .non (.cons (.tup (.cons (.bl true) (.cons (.int 1) .nil))) (.cons (.tup (.cons (.int 1) (.cons (.int 0) .nil))) .nil))))))))))) (.cons (.expr (.met .append (.var 3) (.bin .Add (.bin .Add (.slc (.var 1) .no (.so (.var 2))) (.tup (.cons (.var 5) .nil))) (.slc (.var 1) (.so (.bin .Add (.var 2) (.int 1))) .no)))) .nil)) (.cons (.ife (.cmp .Gt (.bi1 .len (.var 1)) (.int 1)) (.cons (.asg (.nm 6) (.bin .Mod (.bin .Add (.var 2) (.int 1)) (.bi1 .len (.var 1)))) (.cons (.asg (.nm 7) (.bi1 .list (.var 1))) (.cons (.asg (.tp (.cons (.sb (.var 7) (.var 2)) (.cons (.sb (.var 7) (.var 6)) .nil))) (.tup (.cons (.call 45 (.cons (.var 4) (.cons (.tup (.cons (.int 2) (.cons (.int 1) .nil))) .nil))) (.cons (.call 44 (.cons (.idx (.var 1) (.var 6)) (.cons (.tup (.cons (.int 2) (.cons (.int 1) .nil))) .nil))) .nil)))) (.cons (.expr (.met .append (.var 3) (.bi1 .tuple (.var 7)))) .nil)))) .nil) (.cons (.ret (.bin .Add (.var 3) (.lst (.cons (.bi1 .tuple (.lc (.call 46 (.cons (.tup (.cons (.int 2) (.cons (.int 1) .nil))) (.cons (.var 4) .nil))) (.nm 4) (.seq (.var 1)) .no 0)) (.cons (.rev (.var 1)) (.cons (.str "chances") .nil)))))) .nil))))))
def f59 : FD := ⟨"_law_near", ⟨2, 8, [], b59⟩, ["dice", "chances", "at", "found", "one", "odd", "later", "bent"]⟩
/-- _law_judged_right -/
def b60 : Ss := (.cons (.for (.nm 4) (.seq (.call 59 (.cons (.var 0) (.cons (.var 2) .nil)))) (.cons (.ife (.cmp .NotEq (.bi1 .repr (.call 29 (.cons (.var 1) (.cons (.var 4) .nil)))) (.bi1 .repr (.call 57 (.cons (.var 1) (.cons (.var 4) .nil))))) (.cons (.ret (.bl false)) .nil) .nil) .nil)) (.cons (.par2 7 8 (.bi1 .len (.var 3)) (.call 41 (.cons (.var 0) (.cons (.bi1 .len (.var 3)) .nil)))) (.cons (.asg (.nm 5) (.lst (.cons (.var 3) (.cons (.bi1 .list (.var 3)) (.cons (.slc (.var 3) (.so (.int 1)) .no) (.cons (.bin .Add (.var 3) (.slc (.var 3) .no (.so (.int 1)))) (.cons .non (.cons (.tup .nil) (.cons (.var 2) (.cons .dct0 (.cons (.bin .Mult (.tup (.cons (.var 2) .nil)) (.var 7)) .nil))))))))))) (.cons (.for (.nm 6) (.seq (.call 59 (.cons (.var 0) (.cons (.idx (.var 3) (.var 8)) .nil)))) (.cons (.expr (.met .append (.var 5) (.bin .Add (.bin .Add (.slc (.var 3) .no (.so (.var 8))) (.tup (.cons (.var 6) .nil))) (.slc (.var 3) (.so (.bin .Add (.var 8) (.int 1))) .no)))) .nil)) (.cons (.for (.nm 4) (.seq (.var 5)) (.cons (.ife (.cmp .NotEq (.bi1 .repr (.call 30 (.cons (.var 7) (.cons (.var 1) (.cons (.var 4) .nil))))) (.bi1 .repr (.call 58 (.cons (.var 7) (.cons (.var 1) (.cons (.var 4) .nil)))))) (.cons (.ret (.bl false)) .nil) .nil) .nil)) (.cons (.ret (.bl true)) .nil))))))
def f60 : FD := ⟨"_law_judged_right", ⟨4, 9, [], b60⟩, ["dice", "width", "chances", "table", "value", "near", "row", "height", "at"]⟩
/-- _law_between -/
def b61 : Ss := (.cons (.ret (.call 51 (.cons (.call 52 (.cons (.var 0) (.cons (.var 1) .nil))) (.cons (.call 52 (.cons (.call 45 (.cons (.tup (.cons (.int 1) (.cons (.int 1) .nil))) (.cons (.var 0) .nil))) (.cons (.var 2) .nil))) .nil)))) .nil)
def f61 : FD := ⟨"_law_between", ⟨3, 3, [], b61⟩, ["share", "one", "other"]⟩
/-- _law_lone_right -/
def b62 : Ss := (.cons (.par2 11 12 (.call 41 (.cons (.var 0) (.cons (.var 1) .nil))) (.call 43 (.cons (.call 41 (.cons (.var 0) (.cons (.int 8) .nil))) (.cons (.int 7) .nil)))) (.cons (.ife (.bop .Or (.cons (.cmp .NotEq (.call 31 (.cons (.var 1) (.cons (.var 11) .nil))) (.call 53 (.cons (.var 1) (.cons (.var 11) .nil)))) (.cons (.cmp .NotEq (.call 33 (.cons (.var 1) .nil)) (.bin .Mult (.tup (.cons (.tup (.cons (.int 1) (.cons (.var 1) .nil))) .nil)) (.var 1))) .nil))) (.cons (.ret (.bl false)) .nil) .nil) (.cons (.asg (.nm 5) (.call 34 (.cons (.var 1) (.cons (.var 12) (.cons (.var 2) (.cons (.var 3) .nil)))))) (.cons (.ife (.bop .Or (.cons (.cmp .NotEq (.var 5) (.call 61 (.cons (.var 12) (.cons (.var 2) (.cons (.var 3) .nil))))) (.cons (.cmp .IsNot (.call 29 (.cons (.var 1) (.cons (.var 5) .nil))) (.bl true)) .nil))) (.cons (.ret (.bl false)) .nil) .nil) (.cons (.ife (.bop .Or (.cons (.cmp .NotEq (.call 36 (.cons (.var 1) (.cons (.var 2) (.cons (.var 4) .nil)))) (.call 48 (.cons (.var 2) (.cons (.var 4) .nil)))) (.cons (.cmp .NotEq (.call 36 (.cons (.var 1) (.cons (.call 31 (.cons (.var 1) (.cons (.var 11) .nil))) (.cons (.var 4) .nil)))) (.idx (.var 4) (.var 11))) .nil))) (.cons (.ret (.bl false)) .nil) .nil) (.cons (.asg (.nm 6) (.call 44 (.cons (.call 46 (.cons (.var 12) (.cons (.call 36 (.cons (.var 1) (.cons (.var 2) (.cons (.var 4) .nil)))) .nil))) (.cons (.call 46 (.cons (.call 45 (.cons (.tup (.cons (.int 1) (.cons (.int 1) .nil))) (.cons (.var 12) .nil))) (.cons (.call 36 (.cons (.var 1) (.cons (.var 3) (.cons (.var 4) .nil)))) .nil))) .nil)))) (.cons (.ife (.cmp .NotEq (.call 36 (.cons (.var 1) (.cons (.var 5) (.cons (.var 4) .nil)))) (.var 6)) (.cons (.ret (.bl false)) .nil) .nil) (.cons (.asg (.nm 7) (.bi1 .tuple (.lc (.var 14) (.tp (.cons (.nm 14) (.cons (.nm 13) .nil))) (.enum (.var 2)) (.so (.cmp .Gt (.idx (.var 13) (.int 0)) (.int 0))) 0))) (.cons (.asg (.nm 8) (.call 52 (.cons (.call 43 (.cons (.bin .Add (.int 1) (.call 41 (.cons (.var 0) (.cons (.int 9) .nil)))) (.cons (.bin .Add (.int 1) (.call 41 (.cons (.var 0) (.cons (.int 4) .nil)))) .nil))) (.cons (.var 2) .nil)))) (.cons (.ife (.bop .Or (.cons (.cmp .NotEq (.call 35 (.cons (.var 1) (.cons (.var 2) .nil))) (.var 7)) (.cons (.cmp .NotEq (.call 39 (.cons (.var 1) (.cons (.var 8) .nil))) (.var 2)) .nil))) (.cons (.ret (.bl false)) .nil) .nil) (.cons (.asg (.nm 9) (.lc (.var 13) (.nm 13) (.seq (.var 4)) (.so (.call 47 (.cons (.call 36 (.cons (.var 1) (.cons (.var 2) (.cons (.var 4) .nil)))) (.cons (.var 13) .nil)))) 1)) (.cons (.asg (.nm 10) (.lc (.var 13) (.nm 13) (.seq (.var 4)) (.so (.call 47 (.cons (.var 13) (.cons (.call 36 (.cons (.var 1) (.cons (.var 2) (.cons (.var 4) .nil)))) .nil)))) 2)) (.cons (.ret (.bop .And (.cons (.cmp .Lt (.bi1 .len (.var 9)) (.var 1)) (.cons (.cmp .Lt (.bi1 .len (.var 10)) (.var 1)) .nil)))) .nil)))))))))))))
def f62 : FD := ⟨"_law_lone_right", ⟨5, 15, [], b62⟩, ["dice", "width", "chances", "other", "line", "found", "far", "told", "row", "low", "high", "at", "share", "one", "spot"]⟩
/-- _law_forth -/
def b63 : Ss := (.cons (.asg (.nm 3) (.bin .Mult (.tup (.cons (.tup (.cons (.int 0) (.cons (.int 1) .nil))) .nil)) (.var 0))) (.cons (.for (.tp (.cons (.nm 4) (.cons (.nm 5) .nil))) (.zip (.var 2) (.var 1)) (.cons (.asg (.nm 3) (.call 51 (.cons (.var 3) (.cons (.call 52 (.cons (.var 4) (.cons (.var 5) .nil))) .nil)))) .nil)) (.cons (.ret (.var 3)) .nil)))
def f63 : FD := ⟨"_law_forth", ⟨3, 6, [], b63⟩, ["width", "table", "chances", "found", "number", "row"]⟩
/-- _law_tables_right -/
def b64 : Ss := (.cons (.asg (.tp (.cons (.nm 7) (.cons (.nm 8) .nil))) (.tup (.cons (.bin .Add (.int 1) (.call 41 (.cons (.var 0) (.cons (.int 4) .nil)))) (.cons (.bin .Add (.int 1) (.call 41 (.cons (.var 0) (.cons (.int 4) .nil)))) .nil)))) (.cons (.asg (.nm 2) (.bi1 .tuple (.lc (.call 56 (.cons (.var 0) (.cons (.var 8) .nil))) (.nm 12) (.rng1 (.var 7)) .no 0))) (.cons (.asg (.nm 3) (.bi1 .tuple (.lc (.call 56 (.cons (.var 0) (.cons (.var 1) .nil))) (.nm 12) (.rng1 (.var 8)) .no 1))) (.cons (.par3 9 10 11 (.call 56 (.cons (.var 0) (.cons (.var 7) .nil))) (.call 56 (.cons (.var 0) (.cons (.var 7) .nil))) (.call 43 (.cons (.call 41 (.cons (.var 0) (.cons (.int 6) .nil))) (.cons (.int 5) .nil)))) (.cons (.asg (.nm 4) (.call 37 (.cons (.var 7) (.cons (.var 8) (.cons (.var 2) (.cons (.var 9) .nil)))))) (.cons (.ife (.bop .Or (.cons (.cmp .NotEq (.var 4) (.call 63 (.cons (.var 8) (.cons (.var 2) (.cons (.var 9) .nil))))) (.cons (.cmp .IsNot (.call 29 (.cons (.var 8) (.cons (.var 4) .nil))) (.bl true)) .nil))) (.cons (.ret (.bl false)) .nil) .nil) (.cons (.asg (.nm 5) (.call 37 (.cons (.var 7) (.cons (.var 8) (.cons (.var 2) (.cons (.var 10) .nil)))))) (.cons (.ife (.cmp .NotEq (.call 37 (.cons (.var 7) (.cons (.var 8) (.cons (.var 2) (.cons (.call 61 (.cons (.var 11) (.cons (.var 9) (.cons (.var 10) .nil)))) .nil))))) (.call 61 (.cons (.var 11) (.cons (.var 4) (.cons (.var 5) .nil))))) (.cons (.ret (.bl false)) .nil) .nil) (.cons (.asg (.nm 6) (.call 38 (.cons (.var 7) (.cons (.var 8) (.cons (.var 1) (.cons (.var 2) (.cons (.var 3) .nil))))))) (.cons (.ife (.cmp .NotEq (.var 6) (.bi1 .tuple (.lc (.call 63 (.cons (.var 1) (.cons (.var 3) (.cons (.var 13) .nil)))) (.nm 13) (.seq (.var 2)) .no 2))) (.cons (.ret (.bl false)) .nil) .nil) (.cons (.ret (.cmp .Eq (.call 37 (.cons (.var 7) (.cons (.var 1) (.cons (.var 6) (.cons (.var 9) .nil))))) (.call 37 (.cons (.var 8) (.cons (.var 1) (.cons (.var 3) (.cons (.var 4) .nil))))))) .nil)))))))))))
def f64 : FD := ⟨"_law_tables_right", ⟨2, 14, [], b64⟩, ["dice", "width", "one", "other", "told", "far", "both", "height", "middle", "first", "second", "share", "at", "row"]⟩
/-- _law_right -/
def b65 : Ss := (.cons (.asg (.nm 1) (.bin .Add (.int 1) (.call 41 (.cons (.var 0) (.cons (.int 4) .nil))))) (.cons (.par3 3 4 5 (.call 56 (.cons (.var 0) (.cons (.var 1) .nil))) (.call 56 (.cons (.var 0) (.cons (.var 1) .nil))) (.call 55 (.cons (.var 0) (.cons (.var 1) .nil)))) (.cons (.asg (.nm 2) (.bi1 .tuple (.lc (.call 56 (.cons (.var 0) (.cons (.var 1) .nil))) (.nm 6) (.rng1 (.bin .Add (.int 1) (.call 41 (.cons (.var 0) (.cons (.int 4) .nil))))) .no 0))) (.cons (.ife (.bop .Or (.cons (.not (.call 60 (.cons (.var 0) (.cons (.var 1) (.cons (.var 3) (.cons (.var 2) .nil)))))) (.cons (.not (.call 64 (.cons (.var 0) (.cons (.var 1) .nil)))) .nil))) (.cons (.ret (.bl false)) .nil) .nil) (.cons (.ret (.call 62 (.cons (.var 0) (.cons (.var 1) (.cons (.var 3) (.cons (.var 4) (.cons (.var 5) .nil))))))) .nil)))))
def f65 : FD := ⟨"_law_right", ⟨1, 7, [], b65⟩, ["dice", "width", "table", "chances", "other", "line", "at"]⟩
/-- law -/
def b66 : Ss := (.cons (.for (.nm 1) (.rng1 (.bi2 .max (.int 1) (.bi2 .min (.int 5) (.bi1 .len (.var 0))))) (.cons (.asg (.nm 2) (.call 40 (.cons (.var 0) (.cons (.var 1) .nil)))) (.cons (.for (.nm 3) (.rng1 (.int 4)) (.cons (.ife (.not (.call 65 (.cons (.var 2) .nil))) (.cons (.ret (.bl false)) .nil) .nil) .nil)) .nil))) (.cons (.ret (.bop .And (.cons (.cmp .Eq (.call 35 (.cons (.int 3) (.cons (.tup (.cons (.tup (.cons (.int 1) (.cons (.int 2) .nil))) (.cons (.tup (.cons (.int 0) (.cons (.int 1) .nil))) (.cons (.tup (.cons (.int 1) (.cons (.int 2) .nil))) .nil)))) .nil))) (.tup (.cons (.int 0) (.cons (.int 2) .nil)))) (.cons (.cmp .Eq (.call 33 (.cons (.int 8) .nil)) (.bin .Mult (.tup (.cons (.tup (.cons (.int 1) (.cons (.int 8) .nil))) .nil)) (.int 8))) .nil)))) .nil))
def f66 : FD := ⟨"law", ⟨1, 4, [], b66⟩, ["script", "spot", "dice", "turn"]⟩
def fds : List FD := [f0, f1, f2, f3, f4, f5, f6, f7, f8, f9, f10, f11, f12, f13, f14, f15, f16, f17, f18, f19, f20, f21, f22, f23, f24, f25, f26, f27, f28, f29, f30, f31, f32, f33, f34, f35, f36, f37, f38, f39, f40, f41, f42, f43, f44, f45, f46, f47, f48, f49, f50, f51, f52, f53, f54, f55, f56, f57, f58, f59, f60, f61, f62, f63, f64, f65, f66]
def gls : List (Str × D) := [("NOUGHT", .tup ([0, 1].map D.int)), ("ONE", .tup ([1, 1].map D.int)), ("MAX_WIDTH", .int 8)]
def fuel : Nat := 2 ^ 1000000
def tab : Tab := ⟨fds, gls, fuel⟩
def ix : List Nat := [12, 13, 14, 15, 16, 17, 18, 19, 20, 21, 23, 24, 25, 26, 27, 28, 29, 31, 32, 36, 37, 38, 39, 40, 41, 42, 43, 44, 45, 46, 47, 48, 49, 50, 51, 52, 53, 54, 55, 56, 58, 59, 60, 61, 62, 63, 64, 65, 66, 67, 68, 69, 70, 71, 72, 73, 74, 75, 76, 77, 78, 79, 80, 81, 82, 83, 84]
end X35
end
section
-- X35L
set_option Elab.async false
set_option linter.all false
set_option maxRecDepth 100000
namespace X35
open PySem Q
def st (i : Nat) : Stmt := topS PySem.Challenge.pw_sightroads_k35_whole_chances (ix.getD i 0)
theorem o0 : FOk tab f0 (st 0) := ⟨by kernel_rfl, by kernel_rfl, sc_by (by kernel_rfl), rfl, by decide⟩
theorem a0 : ∀ (kV doc pm : Value) (an : Option Addr) (cdv ct : Value) (us : List Value), us.length = (f0.N.take f0.fn.np).length → bindArgs (PySem.W.fnOf "is_integer" "is_integer" (L2.defArgs (st 0)) (L2.defBody (st 0)) (L2.defScope (st 0)) .none kV doc pm an cdv ct) ⟨us, []⟩ = pure ((f0.N.take f0.fn.np).zip us) := fun _ _ _ _ _ _ us hl => match us, hl with | [_], _ => rfl
theorem o1 : FOk tab f1 (st 1) := ⟨by kernel_rfl, by kernel_rfl, sc_by (by kernel_rfl), rfl, by decide⟩
theorem a1 : ∀ (kV doc pm : Value) (an : Option Addr) (cdv ct : Value) (us : List Value), us.length = (f1.N.take f1.fn.np).length → bindArgs (PySem.W.fnOf "common_divisor" "common_divisor" (L2.defArgs (st 1)) (L2.defBody (st 1)) (L2.defScope (st 1)) .none kV doc pm an cdv ct) ⟨us, []⟩ = pure ((f1.N.take f1.fn.np).zip us) := fun _ _ _ _ _ _ us hl => match us, hl with | [_, _], _ => rfl
theorem o2 : FOk tab f2 (st 2) := ⟨by kernel_rfl, by kernel_rfl, sc_by (by kernel_rfl), rfl, by decide⟩
theorem a2 : ∀ (kV doc pm : Value) (an : Option Addr) (cdv ct : Value) (us : List Value), us.length = (f2.N.take f2.fn.np).length → bindArgs (PySem.W.fnOf "is_number" "is_number" (L2.defArgs (st 2)) (L2.defBody (st 2)) (L2.defScope (st 2)) .none kV doc pm an cdv ct) ⟨us, []⟩ = pure ((f2.N.take f2.fn.np).zip us) := fun _ _ _ _ _ _ us hl => match us, hl with | [_], _ => rfl
theorem o3 : FOk tab f3 (st 3) := ⟨by kernel_rfl, by kernel_rfl, sc_by (by kernel_rfl), rfl, by decide⟩
theorem a3 : ∀ (kV doc pm : Value) (an : Option Addr) (cdv ct : Value) (us : List Value), us.length = (f3.N.take f3.fn.np).length → bindArgs (PySem.W.fnOf "reduced" "reduced" (L2.defArgs (st 3)) (L2.defBody (st 3)) (L2.defScope (st 3)) .none kV doc pm an cdv ct) ⟨us, []⟩ = pure ((f3.N.take f3.fn.np).zip us) := fun _ _ _ _ _ _ us hl => match us, hl with | [_, _], _ => rfl
theorem o4 : FOk tab f4 (st 4) := ⟨by kernel_rfl, by kernel_rfl, sc_by (by kernel_rfl), rfl, by decide⟩
theorem a4 : ∀ j, j ≤ f4.fn.df.length → BD f4 "require_count" (st 4) j := fun j hj => match j, hj with | 0, _ => (fun _ _ _ _ _ _ _ us its h1 h2 => match us, its, h1, h2 with | [_], [_, _], _, _ => ⟨_, rfl, rfl⟩) | 1, _ => (fun _ _ _ _ _ _ _ us its h1 h2 => match us, its, h1, h2 with | [_, _], [_, _], _, _ => ⟨_, rfl, rfl⟩) | 2, _ => (fun _ _ _ _ _ _ _ us its h1 h2 => match us, its, h1, h2 with | [_, _, _], [_, _], _, _ => ⟨_, rfl, rfl⟩)
theorem o5 : FOk tab f5 (st 5) := ⟨by kernel_rfl, by kernel_rfl, sc_by (by kernel_rfl), rfl, by decide⟩
theorem a5 : ∀ (kV doc pm : Value) (an : Option Addr) (cdv ct : Value) (us : List Value), us.length = (f5.N.take f5.fn.np).length → bindArgs (PySem.W.fnOf "added" "added" (L2.defArgs (st 5)) (L2.defBody (st 5)) (L2.defScope (st 5)) .none kV doc pm an cdv ct) ⟨us, []⟩ = pure ((f5.N.take f5.fn.np).zip us) := fun _ _ _ _ _ _ us hl => match us, hl with | [_, _], _ => rfl
theorem o6 : FOk tab f6 (st 6) := ⟨by kernel_rfl, by kernel_rfl, sc_by (by kernel_rfl), rfl, by decide⟩
theorem a6 : ∀ (kV doc pm : Value) (an : Option Addr) (cdv ct : Value) (us : List Value), us.length = (f6.N.take f6.fn.np).length → bindArgs (PySem.W.fnOf "multiplied" "multiplied" (L2.defArgs (st 6)) (L2.defBody (st 6)) (L2.defScope (st 6)) .none kV doc pm an cdv ct) ⟨us, []⟩ = pure ((f6.N.take f6.fn.np).zip us) := fun _ _ _ _ _ _ us hl => match us, hl with | [_, _], _ => rfl
theorem o7 : FOk tab f7 (st 7) := ⟨by kernel_rfl, by kernel_rfl, sc_by (by kernel_rfl), rfl, by decide⟩
theorem a7 : ∀ (kV doc pm : Value) (an : Option Addr) (cdv ct : Value) (us : List Value), us.length = (f7.N.take f7.fn.np).length → bindArgs (PySem.W.fnOf "opposite" "opposite" (L2.defArgs (st 7)) (L2.defBody (st 7)) (L2.defScope (st 7)) .none kV doc pm an cdv ct) ⟨us, []⟩ = pure ((f7.N.take f7.fn.np).zip us) := fun _ _ _ _ _ _ us hl => match us, hl with | [_], _ => rfl
theorem o8 : FOk tab f8 (st 8) := ⟨by kernel_rfl, by kernel_rfl, sc_by (by kernel_rfl), rfl, by decide⟩
theorem a8 : ∀ (kV doc pm : Value) (an : Option Addr) (cdv ct : Value) (us : List Value), us.length = (f8.N.take f8.fn.np).length → bindArgs (PySem.W.fnOf "divided" "divided" (L2.defArgs (st 8)) (L2.defBody (st 8)) (L2.defScope (st 8)) .none kV doc pm an cdv ct) ⟨us, []⟩ = pure ((f8.N.take f8.fn.np).zip us) := fun _ _ _ _ _ _ us hl => match us, hl with | [_, _], _ => rfl
theorem o9 : FOk tab f9 (st 9) := ⟨by kernel_rfl, by kernel_rfl, sc_by (by kernel_rfl), rfl, by decide⟩
theorem a9 : ∀ (kV doc pm : Value) (an : Option Addr) (cdv ct : Value) (us : List Value), us.length = (f9.N.take f9.fn.np).length → bindArgs (PySem.W.fnOf "sum_of" "sum_of" (L2.defArgs (st 9)) (L2.defBody (st 9)) (L2.defScope (st 9)) .none kV doc pm an cdv ct) ⟨us, []⟩ = pure ((f9.N.take f9.fn.np).zip us) := fun _ _ _ _ _ _ us hl => match us, hl with | [_], _ => rfl
theorem o10 : FOk tab f10 (st 10) := ⟨by kernel_rfl, by kernel_rfl, sc_by (by kernel_rfl), rfl, by decide⟩
theorem a10 : ∀ (kV doc pm : Value) (an : Option Addr) (cdv ct : Value) (us : List Value), us.length = (f10.N.take f10.fn.np).length → bindArgs (PySem.W.fnOf "is_plain_row" "is_plain_row" (L2.defArgs (st 10)) (L2.defBody (st 10)) (L2.defScope (st 10)) .none kV doc pm an cdv ct) ⟨us, []⟩ = pure ((f10.N.take f10.fn.np).zip us) := fun _ _ _ _ _ _ us hl => match us, hl with | [_, _], _ => rfl
theorem o11 : FOk tab f11 (st 11) := ⟨by kernel_rfl, by kernel_rfl, sc_by (by kernel_rfl), rfl, by decide⟩
theorem a11 : ∀ (kV doc pm : Value) (an : Option Addr) (cdv ct : Value) (us : List Value), us.length = (f11.N.take f11.fn.np).length → bindArgs (PySem.W.fnOf "rest_row" "rest_row" (L2.defArgs (st 11)) (L2.defBody (st 11)) (L2.defScope (st 11)) .none kV doc pm an cdv ct) ⟨us, []⟩ = pure ((f11.N.take f11.fn.np).zip us) := fun _ _ _ _ _ _ us hl => match us, hl with | [_], _ => rfl
theorem o12 : FOk tab f12 (st 12) := ⟨by kernel_rfl, by kernel_rfl, sc_by (by kernel_rfl), rfl, by decide⟩
theorem a12 : ∀ (kV doc pm : Value) (an : Option Addr) (cdv ct : Value) (us : List Value), us.length = (f12.N.take f12.fn.np).length → bindArgs (PySem.W.fnOf "unit_row" "unit_row" (L2.defArgs (st 12)) (L2.defBody (st 12)) (L2.defScope (st 12)) .none kV doc pm an cdv ct) ⟨us, []⟩ = pure ((f12.N.take f12.fn.np).zip us) := fun _ _ _ _ _ _ us hl => match us, hl with | [_, _], _ => rfl
theorem o13 : FOk tab f13 (st 13) := ⟨by kernel_rfl, by kernel_rfl, sc_by (by kernel_rfl), rfl, by decide⟩
theorem a13 : ∀ (kV doc pm : Value) (an : Option Addr) (cdv ct : Value) (us : List Value), us.length = (f13.N.take f13.fn.np).length → bindArgs (PySem.W.fnOf "sum_of_rows" "sum_of_rows" (L2.defArgs (st 13)) (L2.defBody (st 13)) (L2.defScope (st 13)) .none kV doc pm an cdv ct) ⟨us, []⟩ = pure ((f13.N.take f13.fn.np).zip us) := fun _ _ _ _ _ _ us hl => match us, hl with | [_, _], _ => rfl
theorem o14 : FOk tab f14 (st 14) := ⟨by kernel_rfl, by kernel_rfl, sc_by (by kernel_rfl), rfl, by decide⟩
theorem a14 : ∀ (kV doc pm : Value) (an : Option Addr) (cdv ct : Value) (us : List Value), us.length = (f14.N.take f14.fn.np).length → bindArgs (PySem.W.fnOf "times_row" "times_row" (L2.defArgs (st 14)) (L2.defBody (st 14)) (L2.defScope (st 14)) .none kV doc pm an cdv ct) ⟨us, []⟩ = pure ((f14.N.take f14.fn.np).zip us) := fun _ _ _ _ _ _ us hl => match us, hl with | [_, _], _ => rfl
theorem o15 : FOk tab f15 (st 15) := ⟨by kernel_rfl, by kernel_rfl, sc_by (by kernel_rfl), rfl, by decide⟩
theorem a15 : ∀ (kV doc pm : Value) (an : Option Addr) (cdv ct : Value) (us : List Value), us.length = (f15.N.take f15.fn.np).length → bindArgs (PySem.W.fnOf "product_of" "product_of" (L2.defArgs (st 15)) (L2.defBody (st 15)) (L2.defScope (st 15)) .none kV doc pm an cdv ct) ⟨us, []⟩ = pure ((f15.N.take f15.fn.np).zip us) := fun _ _ _ _ _ _ us hl => match us, hl with | [_, _], _ => rfl
theorem o16 : FOk tab f16 (st 16) := ⟨by kernel_rfl, by kernel_rfl, sc_by (by kernel_rfl), rfl, by decide⟩
theorem a16 : ∀ (kV doc pm : Value) (an : Option Addr) (cdv ct : Value) (us : List Value), us.length = (f16.N.take f16.fn.np).length → bindArgs (PySem.W.fnOf "led_told" "led_told" (L2.defArgs (st 16)) (L2.defBody (st 16)) (L2.defScope (st 16)) .none kV doc pm an cdv ct) ⟨us, []⟩ = pure ((f16.N.take f16.fn.np).zip us) := fun _ _ _ _ _ _ us hl => match us, hl with | [_, _, _], _ => rfl
theorem o17 : FOk tab f17 (st 17) := ⟨by kernel_rfl, by kernel_rfl, sc_by (by kernel_rfl), rfl, by decide⟩
theorem a17 : ∀ (kV doc pm : Value) (an : Option Addr) (cdv ct : Value) (us : List Value), us.length = (f17.N.take f17.fn.np).length → bindArgs (PySem.W.fnOf "are_from_nought" "are_from_nought" (L2.defArgs (st 17)) (L2.defBody (st 17)) (L2.defScope (st 17)) .none kV doc pm an cdv ct) ⟨us, []⟩ = pure ((f17.N.take f17.fn.np).zip us) := fun _ _ _ _ _ _ us hl => match us, hl with | [_], _ => rfl
theorem o18 : FOk tab f18 (st 18) := ⟨by kernel_rfl, by kernel_rfl, sc_by (by kernel_rfl), rfl, by decide⟩
theorem a18 : ∀ (kV doc pm : Value) (an : Option Addr) (cdv ct : Value) (us : List Value), us.length = (f18.N.take f18.fn.np).length → bindArgs (PySem.W.fnOf "is_plain_mix" "is_plain_mix" (L2.defArgs (st 18)) (L2.defBody (st 18)) (L2.defScope (st 18)) .none kV doc pm an cdv ct) ⟨us, []⟩ = pure ((f18.N.take f18.fn.np).zip us) := fun _ _ _ _ _ _ us hl => match us, hl with | [_, _], _ => rfl
theorem o19 : FOk tab f19 (st 19) := ⟨by kernel_rfl, by kernel_rfl, sc_by (by kernel_rfl), rfl, by decide⟩
theorem a19 : ∀ (kV doc pm : Value) (an : Option Addr) (cdv ct : Value) (us : List Value), us.length = (f19.N.take f19.fn.np).length → bindArgs (PySem.W.fnOf "require_width" "require_width" (L2.defArgs (st 19)) (L2.defBody (st 19)) (L2.defScope (st 19)) .none kV doc pm an cdv ct) ⟨us, []⟩ = pure ((f19.N.take f19.fn.np).zip us) := fun _ _ _ _ _ _ us hl => match us, hl with | [_], _ => rfl
theorem o20 : FOk tab f20 (st 20) := ⟨by kernel_rfl, by kernel_rfl, sc_by (by kernel_rfl), rfl, by decide⟩
theorem a20 : ∀ (kV doc pm : Value) (an : Option Addr) (cdv ct : Value) (us : List Value), us.length = (f20.N.take f20.fn.np).length → bindArgs (PySem.W.fnOf "is_plain_chances" "is_plain_chances" (L2.defArgs (st 20)) (L2.defBody (st 20)) (L2.defScope (st 20)) .none kV doc pm an cdv ct) ⟨us, []⟩ = pure ((f20.N.take f20.fn.np).zip us) := fun _ _ _ _ _ _ us hl => match us, hl with | [_, _], _ => rfl
theorem o21 : FOk tab f21 (st 21) := ⟨by kernel_rfl, by kernel_rfl, sc_by (by kernel_rfl), rfl, by decide⟩
theorem a21 : ∀ (kV doc pm : Value) (an : Option Addr) (cdv ct : Value) (us : List Value), us.length = (f21.N.take f21.fn.np).length → bindArgs (PySem.W.fnOf "are_chance_rows" "are_chance_rows" (L2.defArgs (st 21)) (L2.defBody (st 21)) (L2.defScope (st 21)) .none kV doc pm an cdv ct) ⟨us, []⟩ = pure ((f21.N.take f21.fn.np).zip us) := fun _ _ _ _ _ _ us hl => match us, hl with | [_, _, _], _ => rfl
theorem o22 : FOk tab f22 (st 22) := ⟨by kernel_rfl, by kernel_rfl, sc_by (by kernel_rfl), rfl, by decide⟩
theorem a22 : ∀ (kV doc pm : Value) (an : Option Addr) (cdv ct : Value) (us : List Value), us.length = (f22.N.take f22.fn.np).length → bindArgs (PySem.W.fnOf "require_chances" "require_chances" (L2.defArgs (st 22)) (L2.defBody (st 22)) (L2.defScope (st 22)) .none kV doc pm an cdv ct) ⟨us, []⟩ = pure ((f22.N.take f22.fn.np).zip us) := fun _ _ _ _ _ _ us hl => match us, hl with | [_, _], _ => rfl
theorem o23 : FOk tab f23 (st 23) := ⟨by kernel_rfl, by kernel_rfl, sc_by (by kernel_rfl), rfl, by decide⟩
theorem a23 : ∀ (kV doc pm : Value) (an : Option Addr) (cdv ct : Value) (us : List Value), us.length = (f23.N.take f23.fn.np).length → bindArgs (PySem.W.fnOf "require_chance_table" "require_chance_table" (L2.defArgs (st 23)) (L2.defBody (st 23)) (L2.defScope (st 23)) .none kV doc pm an cdv ct) ⟨us, []⟩ = pure ((f23.N.take f23.fn.np).zip us) := fun _ _ _ _ _ _ us hl => match us, hl with | [_, _, _], _ => rfl
theorem o24 : FOk tab f24 (st 24) := ⟨by kernel_rfl, by kernel_rfl, sc_by (by kernel_rfl), rfl, by decide⟩
theorem a24 : ∀ (kV doc pm : Value) (an : Option Addr) (cdv ct : Value) (us : List Value), us.length = (f24.N.take f24.fn.np).length → bindArgs (PySem.W.fnOf "require_line" "require_line" (L2.defArgs (st 24)) (L2.defBody (st 24)) (L2.defScope (st 24)) .none kV doc pm an cdv ct) ⟨us, []⟩ = pure ((f24.N.take f24.fn.np).zip us) := fun _ _ _ _ _ _ us hl => match us, hl with | [_, _], _ => rfl
theorem o25 : FOk tab f25 (st 25) := ⟨by kernel_rfl, by kernel_rfl, sc_by (by kernel_rfl), rfl, by decide⟩
theorem a25 : ∀ (kV doc pm : Value) (an : Option Addr) (cdv ct : Value) (us : List Value), us.length = (f25.N.take f25.fn.np).length → bindArgs (PySem.W.fnOf "require_share" "require_share" (L2.defArgs (st 25)) (L2.defBody (st 25)) (L2.defScope (st 25)) .none kV doc pm an cdv ct) ⟨us, []⟩ = pure ((f25.N.take f25.fn.np).zip us) := fun _ _ _ _ _ _ us hl => match us, hl with | [_], _ => rfl
theorem o26 : FOk tab f26 (st 26) := ⟨by kernel_rfl, by kernel_rfl, sc_by (by kernel_rfl), rfl, by decide⟩
theorem a26 : ∀ (kV doc pm : Value) (an : Option Addr) (cdv ct : Value) (us : List Value), us.length = (f26.N.take f26.fn.np).length → bindArgs (PySem.W.fnOf "behind_by" "behind_by" (L2.defArgs (st 26)) (L2.defBody (st 26)) (L2.defScope (st 26)) .none kV doc pm an cdv ct) ⟨us, []⟩ = pure ((f26.N.take f26.fn.np).zip us) := fun _ _ _ _ _ _ us hl => match us, hl with | [_, _], _ => rfl
theorem o27 : FOk tab f27 (st 27) := ⟨by kernel_rfl, by kernel_rfl, sc_by (by kernel_rfl), rfl, by decide⟩
theorem a27 : ∀ (kV doc pm : Value) (an : Option Addr) (cdv ct : Value) (us : List Value), us.length = (f27.N.take f27.fn.np).length → bindArgs (PySem.W.fnOf "between_by" "between_by" (L2.defArgs (st 27)) (L2.defBody (st 27)) (L2.defScope (st 27)) .none kV doc pm an cdv ct) ⟨us, []⟩ = pure ((f27.N.take f27.fn.np).zip us) := fun _ _ _ _ _ _ us hl => match us, hl with | [_, _, _], _ => rfl
theorem o28 : FOk tab f28 (st 28) := ⟨by kernel_rfl, by kernel_rfl, sc_by (by kernel_rfl), rfl, by decide⟩
theorem a28 : ∀ (kV doc pm : Value) (an : Option Addr) (cdv ct : Value) (us : List Value), us.length = (f28.N.take f28.fn.np).length → bindArgs (PySem.W.fnOf "weighed_by" "weighed_by" (L2.defArgs (st 28)) (L2.defBody (st 28)) (L2.defScope (st 28)) .none kV doc pm an cdv ct) ⟨us, []⟩ = pure ((f28.N.take f28.fn.np).zip us) := fun _ _ _ _ _ _ us hl => match us, hl with | [_], _ => rfl
theorem o29 : FOk tab f29 (st 29) := ⟨by kernel_rfl, by kernel_rfl, sc_by (by kernel_rfl), rfl, by decide⟩
theorem a29 : ∀ (kV doc pm : Value) (an : Option Addr) (cdv ct : Value) (us : List Value), us.length = (f29.N.take f29.fn.np).length → bindArgs (PySem.W.fnOf "is_chances" "is_chances" (L2.defArgs (st 29)) (L2.defBody (st 29)) (L2.defScope (st 29)) .none kV doc pm an cdv ct) ⟨us, []⟩ = pure ((f29.N.take f29.fn.np).zip us) := fun _ _ _ _ _ _ us hl => match us, hl with | [_, _], _ => rfl
theorem o30 : FOk tab f30 (st 30) := ⟨by kernel_rfl, by kernel_rfl, sc_by (by kernel_rfl), rfl, by decide⟩
theorem a30 : ∀ (kV doc pm : Value) (an : Option Addr) (cdv ct : Value) (us : List Value), us.length = (f30.N.take f30.fn.np).length → bindArgs (PySem.W.fnOf "is_chance_table" "is_chance_table" (L2.defArgs (st 30)) (L2.defBody (st 30)) (L2.defScope (st 30)) .none kV doc pm an cdv ct) ⟨us, []⟩ = pure ((f30.N.take f30.fn.np).zip us) := fun _ _ _ _ _ _ us hl => match us, hl with | [_, _, _], _ => rfl
theorem o31 : FOk tab f31 (st 31) := ⟨by kernel_rfl, by kernel_rfl, sc_by (by kernel_rfl), rfl, by decide⟩
theorem a31 : ∀ (kV doc pm : Value) (an : Option Addr) (cdv ct : Value) (us : List Value), us.length = (f31.N.take f31.fn.np).length → bindArgs (PySem.W.fnOf "sure_chances" "sure_chances" (L2.defArgs (st 31)) (L2.defBody (st 31)) (L2.defScope (st 31)) .none kV doc pm an cdv ct) ⟨us, []⟩ = pure ((f31.N.take f31.fn.np).zip us) := fun _ _ _ _ _ _ us hl => match us, hl with | [_, _], _ => rfl
theorem o32 : FOk tab f32 (st 32) := ⟨by kernel_rfl, by kernel_rfl, sc_by (by kernel_rfl), rfl, by decide⟩
theorem a32 : ∀ (kV doc pm : Value) (an : Option Addr) (cdv ct : Value) (us : List Value), us.length = (f32.N.take f32.fn.np).length → bindArgs (PySem.W.fnOf "even_by" "even_by" (L2.defArgs (st 32)) (L2.defBody (st 32)) (L2.defScope (st 32)) .none kV doc pm an cdv ct) ⟨us, []⟩ = pure ((f32.N.take f32.fn.np).zip us) := fun _ _ _ _ _ _ us hl => match us, hl with | [_], _ => rfl
theorem o33 : FOk tab f33 (st 33) := ⟨by kernel_rfl, by kernel_rfl, sc_by (by kernel_rfl), rfl, by decide⟩
theorem a33 : ∀ (kV doc pm : Value) (an : Option Addr) (cdv ct : Value) (us : List Value), us.length = (f33.N.take f33.fn.np).length → bindArgs (PySem.W.fnOf "even_chances" "even_chances" (L2.defArgs (st 33)) (L2.defBody (st 33)) (L2.defScope (st 33)) .none kV doc pm an cdv ct) ⟨us, []⟩ = pure ((f33.N.take f33.fn.np).zip us) := fun _ _ _ _ _ _ us hl => match us, hl with | [_], _ => rfl
theorem o34 : FOk tab f34 (st 34) := ⟨by kernel_rfl, by kernel_rfl, sc_by (by kernel_rfl), rfl, by decide⟩
theorem a34 : ∀ (kV doc pm : Value) (an : Option Addr) (cdv ct : Value) (us : List Value), us.length = (f34.N.take f34.fn.np).length → bindArgs (PySem.W.fnOf "between" "between" (L2.defArgs (st 34)) (L2.defBody (st 34)) (L2.defScope (st 34)) .none kV doc pm an cdv ct) ⟨us, []⟩ = pure ((f34.N.take f34.fn.np).zip us) := fun _ _ _ _ _ _ us hl => match us, hl with | [_, _, _, _], _ => rfl
theorem o35 : FOk tab f35 (st 35) := ⟨by kernel_rfl, by kernel_rfl, sc_by (by kernel_rfl), rfl, by decide⟩
theorem a35 : ∀ (kV doc pm : Value) (an : Option Addr) (cdv ct : Value) (us : List Value), us.length = (f35.N.take f35.fn.np).length → bindArgs (PySem.W.fnOf "spots" "spots" (L2.defArgs (st 35)) (L2.defBody (st 35)) (L2.defScope (st 35)) .none kV doc pm an cdv ct) ⟨us, []⟩ = pure ((f35.N.take f35.fn.np).zip us) := fun _ _ _ _ _ _ us hl => match us, hl with | [_, _], _ => rfl
theorem o36 : FOk tab f36 (st 36) := ⟨by kernel_rfl, by kernel_rfl, sc_by (by kernel_rfl), rfl, by decide⟩
theorem a36 : ∀ (kV doc pm : Value) (an : Option Addr) (cdv ct : Value) (us : List Value), us.length = (f36.N.take f36.fn.np).length → bindArgs (PySem.W.fnOf "mean" "mean" (L2.defArgs (st 36)) (L2.defBody (st 36)) (L2.defScope (st 36)) .none kV doc pm an cdv ct) ⟨us, []⟩ = pure ((f36.N.take f36.fn.np).zip us) := fun _ _ _ _ _ _ us hl => match us, hl with | [_, _, _], _ => rfl
theorem o37 : FOk tab f37 (st 37) := ⟨by kernel_rfl, by kernel_rfl, sc_by (by kernel_rfl), rfl, by decide⟩
theorem a37 : ∀ (kV doc pm : Value) (an : Option Addr) (cdv ct : Value) (us : List Value), us.length = (f37.N.take f37.fn.np).length → bindArgs (PySem.W.fnOf "behind_table" "behind_table" (L2.defArgs (st 37)) (L2.defBody (st 37)) (L2.defScope (st 37)) .none kV doc pm an cdv ct) ⟨us, []⟩ = pure ((f37.N.take f37.fn.np).zip us) := fun _ _ _ _ _ _ us hl => match us, hl with | [_, _, _, _], _ => rfl
theorem o38 : FOk tab f38 (st 38) := ⟨by kernel_rfl, by kernel_rfl, sc_by (by kernel_rfl), rfl, by decide⟩
theorem a38 : ∀ (kV doc pm : Value) (an : Option Addr) (cdv ct : Value) (us : List Value), us.length = (f38.N.take f38.fn.np).length → bindArgs (PySem.W.fnOf "table_behind" "table_behind" (L2.defArgs (st 38)) (L2.defBody (st 38)) (L2.defScope (st 38)) .none kV doc pm an cdv ct) ⟨us, []⟩ = pure ((f38.N.take f38.fn.np).zip us) := fun _ _ _ _ _ _ us hl => match us, hl with | [_, _, _, _, _], _ => rfl
theorem o39 : FOk tab f39 (st 39) := ⟨by kernel_rfl, by kernel_rfl, sc_by (by kernel_rfl), rfl, by decide⟩
theorem a39 : ∀ (kV doc pm : Value) (an : Option Addr) (cdv ct : Value) (us : List Value), us.length = (f39.N.take f39.fn.np).length → bindArgs (PySem.W.fnOf "weighed" "weighed" (L2.defArgs (st 39)) (L2.defBody (st 39)) (L2.defScope (st 39)) .none kV doc pm an cdv ct) ⟨us, []⟩ = pure ((f39.N.take f39.fn.np).zip us) := fun _ _ _ _ _ _ us hl => match us, hl with | [_, _], _ => rfl
theorem o40 : FOk tab f40 (st 40) := ⟨by kernel_rfl, by kernel_rfl, sc_by (by kernel_rfl), rfl, by decide⟩
theorem a40 : ∀ (kV doc pm : Value) (an : Option Addr) (cdv ct : Value) (us : List Value), us.length = (f40.N.take f40.fn.np).length → bindArgs (PySem.W.fnOf "_law_dice" "_law_dice" (L2.defArgs (st 40)) (L2.defBody (st 40)) (L2.defScope (st 40)) .none kV doc pm an cdv ct) ⟨us, []⟩ = pure ((f40.N.take f40.fn.np).zip us) := fun _ _ _ _ _ _ us hl => match us, hl with | [_, _], _ => rfl
theorem o41 : FOk tab f41 (st 41) := ⟨by kernel_rfl, by kernel_rfl, sc_by (by kernel_rfl), rfl, by decide⟩
theorem a41 : ∀ (kV doc pm : Value) (an : Option Addr) (cdv ct : Value) (us : List Value), us.length = (f41.N.take f41.fn.np).length → bindArgs (PySem.W.fnOf "_law_roll" "_law_roll" (L2.defArgs (st 41)) (L2.defBody (st 41)) (L2.defScope (st 41)) .none kV doc pm an cdv ct) ⟨us, []⟩ = pure ((f41.N.take f41.fn.np).zip us) := fun _ _ _ _ _ _ us hl => match us, hl with | [_, _], _ => rfl
theorem o42 : FOk tab f42 (st 42) := ⟨by kernel_rfl, by kernel_rfl, sc_by (by kernel_rfl), rfl, by decide⟩
theorem a42 : ∀ (kV doc pm : Value) (an : Option Addr) (cdv ct : Value) (us : List Value), us.length = (f42.N.take f42.fn.np).length → bindArgs (PySem.W.fnOf "_law_pick" "_law_pick" (L2.defArgs (st 42)) (L2.defBody (st 42)) (L2.defScope (st 42)) .none kV doc pm an cdv ct) ⟨us, []⟩ = pure ((f42.N.take f42.fn.np).zip us) := fun _ _ _ _ _ _ us hl => match us, hl with | [_, _], _ => rfl
theorem o43 : FOk tab f43 (st 43) := ⟨by kernel_rfl, by kernel_rfl, sc_by (by kernel_rfl), rfl, by decide⟩
theorem a43 : ∀ (kV doc pm : Value) (an : Option Addr) (cdv ct : Value) (us : List Value), us.length = (f43.N.take f43.fn.np).length → bindArgs (PySem.W.fnOf "_law_fr" "_law_fr" (L2.defArgs (st 43)) (L2.defBody (st 43)) (L2.defScope (st 43)) .none kV doc pm an cdv ct) ⟨us, []⟩ = pure ((f43.N.take f43.fn.np).zip us) := fun _ _ _ _ _ _ us hl => match us, hl with | [_, _], _ => rfl
theorem o44 : FOk tab f44 (st 44) := ⟨by kernel_rfl, by kernel_rfl, sc_by (by kernel_rfl), rfl, by decide⟩
theorem a44 : ∀ (kV doc pm : Value) (an : Option Addr) (cdv ct : Value) (us : List Value), us.length = (f44.N.take f44.fn.np).length → bindArgs (PySem.W.fnOf "_law_plus" "_law_plus" (L2.defArgs (st 44)) (L2.defBody (st 44)) (L2.defScope (st 44)) .none kV doc pm an cdv ct) ⟨us, []⟩ = pure ((f44.N.take f44.fn.np).zip us) := fun _ _ _ _ _ _ us hl => match us, hl with | [_, _], _ => rfl
theorem o45 : FOk tab f45 (st 45) := ⟨by kernel_rfl, by kernel_rfl, sc_by (by kernel_rfl), rfl, by decide⟩
theorem a45 : ∀ (kV doc pm : Value) (an : Option Addr) (cdv ct : Value) (us : List Value), us.length = (f45.N.take f45.fn.np).length → bindArgs (PySem.W.fnOf "_law_minus" "_law_minus" (L2.defArgs (st 45)) (L2.defBody (st 45)) (L2.defScope (st 45)) .none kV doc pm an cdv ct) ⟨us, []⟩ = pure ((f45.N.take f45.fn.np).zip us) := fun _ _ _ _ _ _ us hl => match us, hl with | [_, _], _ => rfl
theorem o46 : FOk tab f46 (st 46) := ⟨by kernel_rfl, by kernel_rfl, sc_by (by kernel_rfl), rfl, by decide⟩
theorem a46 : ∀ (kV doc pm : Value) (an : Option Addr) (cdv ct : Value) (us : List Value), us.length = (f46.N.take f46.fn.np).length → bindArgs (PySem.W.fnOf "_law_times" "_law_times" (L2.defArgs (st 46)) (L2.defBody (st 46)) (L2.defScope (st 46)) .none kV doc pm an cdv ct) ⟨us, []⟩ = pure ((f46.N.take f46.fn.np).zip us) := fun _ _ _ _ _ _ us hl => match us, hl with | [_, _], _ => rfl
theorem o47 : FOk tab f47 (st 47) := ⟨by kernel_rfl, by kernel_rfl, sc_by (by kernel_rfl), rfl, by decide⟩
theorem a47 : ∀ (kV doc pm : Value) (an : Option Addr) (cdv ct : Value) (us : List Value), us.length = (f47.N.take f47.fn.np).length → bindArgs (PySem.W.fnOf "_law_is_under" "_law_is_under" (L2.defArgs (st 47)) (L2.defBody (st 47)) (L2.defScope (st 47)) .none kV doc pm an cdv ct) ⟨us, []⟩ = pure ((f47.N.take f47.fn.np).zip us) := fun _ _ _ _ _ _ us hl => match us, hl with | [_, _], _ => rfl
theorem o48 : FOk tab f48 (st 48) := ⟨by kernel_rfl, by kernel_rfl, sc_by (by kernel_rfl), rfl, by decide⟩
theorem a48 : ∀ (kV doc pm : Value) (an : Option Addr) (cdv ct : Value) (us : List Value), us.length = (f48.N.take f48.fn.np).length → bindArgs (PySem.W.fnOf "_law_dot" "_law_dot" (L2.defArgs (st 48)) (L2.defBody (st 48)) (L2.defScope (st 48)) .none kV doc pm an cdv ct) ⟨us, []⟩ = pure ((f48.N.take f48.fn.np).zip us) := fun _ _ _ _ _ _ us hl => match us, hl with | [_, _], _ => rfl
theorem o49 : FOk tab f49 (st 49) := ⟨by kernel_rfl, by kernel_rfl, sc_by (by kernel_rfl), rfl, by decide⟩
theorem a49 : ∀ (kV doc pm : Value) (an : Option Addr) (cdv ct : Value) (us : List Value), us.length = (f49.N.take f49.fn.np).length → bindArgs (PySem.W.fnOf "_law_is_number" "_law_is_number" (L2.defArgs (st 49)) (L2.defBody (st 49)) (L2.defScope (st 49)) .none kV doc pm an cdv ct) ⟨us, []⟩ = pure ((f49.N.take f49.fn.np).zip us) := fun _ _ _ _ _ _ us hl => match us, hl with | [_], _ => rfl
theorem o50 : FOk tab f50 (st 50) := ⟨by kernel_rfl, by kernel_rfl, sc_by (by kernel_rfl), rfl, by decide⟩
theorem a50 : ∀ (kV doc pm : Value) (an : Option Addr) (cdv ct : Value) (us : List Value), us.length = (f50.N.take f50.fn.np).length → bindArgs (PySem.W.fnOf "_law_is_row" "_law_is_row" (L2.defArgs (st 50)) (L2.defBody (st 50)) (L2.defScope (st 50)) .none kV doc pm an cdv ct) ⟨us, []⟩ = pure ((f50.N.take f50.fn.np).zip us) := fun _ _ _ _ _ _ us hl => match us, hl with | [_, _], _ => rfl
theorem o51 : FOk tab f51 (st 51) := ⟨by kernel_rfl, by kernel_rfl, sc_by (by kernel_rfl), rfl, by decide⟩
theorem a51 : ∀ (kV doc pm : Value) (an : Option Addr) (cdv ct : Value) (us : List Value), us.length = (f51.N.take f51.fn.np).length → bindArgs (PySem.W.fnOf "_law_sum_of" "_law_sum_of" (L2.defArgs (st 51)) (L2.defBody (st 51)) (L2.defScope (st 51)) .none kV doc pm an cdv ct) ⟨us, []⟩ = pure ((f51.N.take f51.fn.np).zip us) := fun _ _ _ _ _ _ us hl => match us, hl with | [_, _], _ => rfl
theorem o52 : FOk tab f52 (st 52) := ⟨by kernel_rfl, by kernel_rfl, sc_by (by kernel_rfl), rfl, by decide⟩
theorem a52 : ∀ (kV doc pm : Value) (an : Option Addr) (cdv ct : Value) (us : List Value), us.length = (f52.N.take f52.fn.np).length → bindArgs (PySem.W.fnOf "_law_by" "_law_by" (L2.defArgs (st 52)) (L2.defBody (st 52)) (L2.defScope (st 52)) .none kV doc pm an cdv ct) ⟨us, []⟩ = pure ((f52.N.take f52.fn.np).zip us) := fun _ _ _ _ _ _ us hl => match us, hl with | [_, _], _ => rfl
theorem o53 : FOk tab f53 (st 53) := ⟨by kernel_rfl, by kernel_rfl, sc_by (by kernel_rfl), rfl, by decide⟩
theorem a53 : ∀ (kV doc pm : Value) (an : Option Addr) (cdv ct : Value) (us : List Value), us.length = (f53.N.take f53.fn.np).length → bindArgs (PySem.W.fnOf "_law_sr_unit" "_law_sr_unit" (L2.defArgs (st 53)) (L2.defBody (st 53)) (L2.defScope (st 53)) .none kV doc pm an cdv ct) ⟨us, []⟩ = pure ((f53.N.take f53.fn.np).zip us) := fun _ _ _ _ _ _ us hl => match us, hl with | [_, _], _ => rfl
theorem o54 : FOk tab f54 (st 54) := ⟨by kernel_rfl, by kernel_rfl, sc_by (by kernel_rfl), rfl, by decide⟩
theorem a54 : ∀ (kV doc pm : Value) (an : Option Addr) (cdv ct : Value) (us : List Value), us.length = (f54.N.take f54.fn.np).length → bindArgs (PySem.W.fnOf "_law_sr_number" "_law_sr_number" (L2.defArgs (st 54)) (L2.defBody (st 54)) (L2.defScope (st 54)) .none kV doc pm an cdv ct) ⟨us, []⟩ = pure ((f54.N.take f54.fn.np).zip us) := fun _ _ _ _ _ _ us hl => match us, hl with | [_], _ => rfl
theorem o55 : FOk tab f55 (st 55) := ⟨by kernel_rfl, by kernel_rfl, sc_by (by kernel_rfl), rfl, by decide⟩
theorem a55 : ∀ (kV doc pm : Value) (an : Option Addr) (cdv ct : Value) (us : List Value), us.length = (f55.N.take f55.fn.np).length → bindArgs (PySem.W.fnOf "_law_sr_row" "_law_sr_row" (L2.defArgs (st 55)) (L2.defBody (st 55)) (L2.defScope (st 55)) .none kV doc pm an cdv ct) ⟨us, []⟩ = pure ((f55.N.take f55.fn.np).zip us) := fun _ _ _ _ _ _ us hl => match us, hl with | [_, _], _ => rfl
theorem o56 : FOk tab f56 (st 56) := ⟨by kernel_rfl, by kernel_rfl, sc_by (by kernel_rfl), rfl, by decide⟩
theorem a56 : ∀ (kV doc pm : Value) (an : Option Addr) (cdv ct : Value) (us : List Value), us.length = (f56.N.take f56.fn.np).length → bindArgs (PySem.W.fnOf "_law_sr_chances" "_law_sr_chances" (L2.defArgs (st 56)) (L2.defBody (st 56)) (L2.defScope (st 56)) .none kV doc pm an cdv ct) ⟨us, []⟩ = pure ((f56.N.take f56.fn.np).zip us) := fun _ _ _ _ _ _ us hl => match us, hl with | [_, _], _ => rfl
theorem o57 : FOk tab f57 (st 57) := ⟨by kernel_rfl, by kernel_rfl, sc_by (by kernel_rfl), rfl, by decide⟩
theorem a57 : ∀ (kV doc pm : Value) (an : Option Addr) (cdv ct : Value) (us : List Value), us.length = (f57.N.take f57.fn.np).length → bindArgs (PySem.W.fnOf "_law_sr_is_chances" "_law_sr_is_chances" (L2.defArgs (st 57)) (L2.defBody (st 57)) (L2.defScope (st 57)) .none kV doc pm an cdv ct) ⟨us, []⟩ = pure ((f57.N.take f57.fn.np).zip us) := fun _ _ _ _ _ _ us hl => match us, hl with | [_, _], _ => rfl
theorem o58 : FOk tab f58 (st 58) := ⟨by kernel_rfl, by kernel_rfl, sc_by (by kernel_rfl), rfl, by decide⟩
theorem a58 : ∀ (kV doc pm : Value) (an : Option Addr) (cdv ct : Value) (us : List Value), us.length = (f58.N.take f58.fn.np).length → bindArgs (PySem.W.fnOf "_law_is_table" "_law_is_table" (L2.defArgs (st 58)) (L2.defBody (st 58)) (L2.defScope (st 58)) .none kV doc pm an cdv ct) ⟨us, []⟩ = pure ((f58.N.take f58.fn.np).zip us) := fun _ _ _ _ _ _ us hl => match us, hl with | [_, _, _], _ => rfl
theorem o59 : FOk tab f59 (st 59) := ⟨by kernel_rfl, by kernel_rfl, sc_by (by kernel_rfl), rfl, by decide⟩
theorem a59 : ∀ (kV doc pm : Value) (an : Option Addr) (cdv ct : Value) (us : List Value), us.length = (f59.N.take f59.fn.np).length → bindArgs (PySem.W.fnOf "_law_near" "_law_near" (L2.defArgs (st 59)) (L2.defBody (st 59)) (L2.defScope (st 59)) .none kV doc pm an cdv ct) ⟨us, []⟩ = pure ((f59.N.take f59.fn.np).zip us) := fun _ _ _ _ _ _ us hl => match us, hl with | [_, _], _ => rfl
theorem o60 : FOk tab f60 (st 60) := ⟨by kernel_rfl, by kernel_rfl, sc_by (by kernel_rfl), rfl, by decide⟩
theorem a60 : ∀ (kV doc pm : Value) (an : Option Addr) (cdv ct : Value) (us : List Value), us.length = (f60.N.take f60.fn.np).length → bindArgs (PySem.W.fnOf "_law_judged_right" "_law_judged_right" (L2.defArgs (st 60)) (L2.defBody (st 60)) (L2.defScope (st 60)) .none kV doc pm an cdv ct) ⟨us, []⟩ = pure ((f60.N.take f60.fn.np).zip us) := fun _ _ _ _ _ _ us hl => match us, hl with | [_, _, _, _], _ => rfl
theorem o61 : FOk tab f61 (st 61) := ⟨by kernel_rfl, by kernel_rfl, sc_by (by kernel_rfl), rfl, by decide⟩
theorem a61 : ∀ (kV doc pm : Value) (an : Option Addr) (cdv ct : Value) (us : List Value), us.length = (f61.N.take f61.fn.np).length → bindArgs (PySem.W.fnOf "_law_between" "_law_between" (L2.defArgs (st 61)) (L2.defBody (st 61)) (L2.defScope (st 61)) .none kV doc pm an cdv ct) ⟨us, []⟩ = pure ((f61.N.take f61.fn.np).zip us) := fun _ _ _ _ _ _ us hl => match us, hl with | [_, _, _], _ => rfl
theorem o62 : FOk tab f62 (st 62) := ⟨by kernel_rfl, by kernel_rfl, sc_by (by kernel_rfl), rfl, by decide⟩
theorem a62 : ∀ (kV doc pm : Value) (an : Option Addr) (cdv ct : Value) (us : List Value), us.length = (f62.N.take f62.fn.np).length → bindArgs (PySem.W.fnOf "_law_lone_right" "_law_lone_right" (L2.defArgs (st 62)) (L2.defBody (st 62)) (L2.defScope (st 62)) .none kV doc pm an cdv ct) ⟨us, []⟩ = pure ((f62.N.take f62.fn.np).zip us) := fun _ _ _ _ _ _ us hl => match us, hl with | [_, _, _, _, _], _ => rfl
theorem o63 : FOk tab f63 (st 63) := ⟨by kernel_rfl, by kernel_rfl, sc_by (by kernel_rfl), rfl, by decide⟩
theorem a63 : ∀ (kV doc pm : Value) (an : Option Addr) (cdv ct : Value) (us : List Value), us.length = (f63.N.take f63.fn.np).length → bindArgs (PySem.W.fnOf "_law_forth" "_law_forth" (L2.defArgs (st 63)) (L2.defBody (st 63)) (L2.defScope (st 63)) .none kV doc pm an cdv ct) ⟨us, []⟩ = pure ((f63.N.take f63.fn.np).zip us) := fun _ _ _ _ _ _ us hl => match us, hl with | [_, _, _], _ => rfl
theorem o64 : FOk tab f64 (st 64) := ⟨by kernel_rfl, by kernel_rfl, sc_by (by kernel_rfl), rfl, by decide⟩
theorem a64 : ∀ (kV doc pm : Value) (an : Option Addr) (cdv ct : Value) (us : List Value), us.length = (f64.N.take f64.fn.np).length → bindArgs (PySem.W.fnOf "_law_tables_right" "_law_tables_right" (L2.defArgs (st 64)) (L2.defBody (st 64)) (L2.defScope (st 64)) .none kV doc pm an cdv ct) ⟨us, []⟩ = pure ((f64.N.take f64.fn.np).zip us) := fun _ _ _ _ _ _ us hl => match us, hl with | [_, _], _ => rfl
theorem o65 : FOk tab f65 (st 65) := ⟨by kernel_rfl, by kernel_rfl, sc_by (by kernel_rfl), rfl, by decide⟩
theorem a65 : ∀ (kV doc pm : Value) (an : Option Addr) (cdv ct : Value) (us : List Value), us.length = (f65.N.take f65.fn.np).length → bindArgs (PySem.W.fnOf "_law_right" "_law_right" (L2.defArgs (st 65)) (L2.defBody (st 65)) (L2.defScope (st 65)) .none kV doc pm an cdv ct) ⟨us, []⟩ = pure ((f65.N.take f65.fn.np).zip us) := fun _ _ _ _ _ _ us hl => match us, hl with | [_], _ => rfl
theorem o66 : FOk tab f66 (st 66) := ⟨by kernel_rfl, by kernel_rfl, sc_by (by kernel_rfl), rfl, by decide⟩
theorem a66 : ∀ (kV doc pm : Value) (an : Option Addr) (cdv ct : Value) (us : List Value), us.length = (f66.N.take f66.fn.np).length → bindArgs (PySem.W.fnOf "law" "law" (L2.defArgs (st 66)) (L2.defBody (st 66)) (L2.defScope (st 66)) .none kV doc pm an cdv ct) ⟨us, []⟩ = pure ((f66.N.take f66.fn.np).zip us) := fun _ _ _ _ _ _ us hl => match us, hl with | [_], _ => rfl
end X35
end
section
-- X35M
set_option Elab.async false
set_option linter.all false
set_option maxRecDepth 100000
namespace X35
open PySem Q
theorem at_is_integer : tab.ctx.fns[0]? = some (Q.F_is_integer) := rfl
theorem at_common_divisor : tab.ctx.fns[1]? = some (Q.F_common_divisor) := rfl
theorem at_is_number : tab.ctx.fns[2]? = some (Q.F_is_number 0 1) := rfl
theorem at_reduced : tab.ctx.fns[3]? = some (Q.F_reduced 1) := rfl
theorem at_require_count : tab.ctx.fns[4]? = some (Q.F_require_count 0) := rfl
theorem at_added : tab.ctx.fns[5]? = some (Q.F_added 3) := rfl
theorem at_multiplied : tab.ctx.fns[6]? = some (Q.F_multiplied 3) := rfl
theorem at_opposite : tab.ctx.fns[7]? = some (Q.F_opposite) := rfl
theorem at_divided : tab.ctx.fns[8]? = some (Q.F_divided 3) := rfl
theorem at_sum_of : tab.ctx.fns[9]? = some (Q.F_sum_of 5 0) := rfl
theorem at_is_plain_row : tab.ctx.fns[10]? = some (Q.F_is_plain_row 2) := rfl
theorem at_rest_row : tab.ctx.fns[11]? = some (Q.F_rest_row 0) := rfl
theorem at_unit_row : tab.ctx.fns[12]? = some (Q.F_unit_row 1 0) := rfl
theorem at_sum_of_rows : tab.ctx.fns[13]? = some (Q.F_sum_of_rows 5) := rfl
theorem at_times_row : tab.ctx.fns[14]? = some (Q.F_times_row 6 0) := rfl
theorem at_product_of : tab.ctx.fns[15]? = some (Q.F_product_of 5 6 0) := rfl
theorem at_led_told : tab.ctx.fns[16]? = some (Q.F_led_told 11 13 14 0) := rfl
theorem at_are_from_nought : tab.ctx.fns[17]? = some (Q.F_are_from_nought) := rfl
theorem at_is_plain_mix : tab.ctx.fns[18]? = some (Q.F_is_plain_mix 10 17) := rfl
theorem at_require_width : tab.ctx.fns[19]? = some (Q.F_require_width 4 2) := rfl
theorem at_is_plain_chances : tab.ctx.fns[20]? = some (Q.F_is_plain_chances 18 9 1) := rfl
theorem at_are_chance_rows : tab.ctx.fns[21]? = some (Q.F_are_chance_rows 20) := rfl
theorem at_require_chances : tab.ctx.fns[22]? = some (Q.F_require_chances 20) := rfl
theorem at_require_chance_table : tab.ctx.fns[23]? = some (Q.F_require_chance_table 21) := rfl
theorem at_require_line : tab.ctx.fns[24]? = some (Q.F_require_line 10) := rfl
theorem at_require_share : tab.ctx.fns[25]? = some (Q.F_require_share 2) := rfl
theorem at_behind_by : tab.ctx.fns[26]? = some (Q.F_behind_by 16) := rfl
theorem at_between_by : tab.ctx.fns[27]? = some (Q.F_between_by 13 14 5 7 1) := rfl
theorem at_weighed_by : tab.ctx.fns[28]? = some (Q.F_weighed_by 14 8 9 1) := rfl
theorem at_is_chances : tab.ctx.fns[29]? = some (Q.F_is_chances 19 20) := rfl
theorem at_is_chance_table : tab.ctx.fns[30]? = some (Q.F_is_chance_table 19 21) := rfl
theorem at_sure_chances : tab.ctx.fns[31]? = some (Q.F_sure_chances 19 0 12) := rfl
theorem at_even_by : tab.ctx.fns[32]? = some (Q.F_even_by) := rfl
theorem at_even_chances : tab.ctx.fns[33]? = some (Q.F_even_chances 19 32) := rfl
theorem at_between : tab.ctx.fns[34]? = some (Q.F_between 19 25 22 27) := rfl
theorem at_spots : tab.ctx.fns[35]? = some (Q.F_spots 19 22) := rfl
theorem at_mean : tab.ctx.fns[36]? = some (Q.F_mean 19 22 24 15) := rfl
theorem at_behind_table : tab.ctx.fns[37]? = some (Q.F_behind_table 19 23 22 26) := rfl
theorem at_table_behind : tab.ctx.fns[38]? = some (Q.F_table_behind 19 23 26) := rfl
theorem at_weighed : tab.ctx.fns[39]? = some (Q.F_weighed 19 18 28) := rfl
theorem at_law_dice : tab.ctx.fns[40]? = some (Q.F_law_dice) := rfl
theorem at_law_roll : tab.ctx.fns[41]? = some (Q.F_law_roll) := rfl
theorem at_law_pick : tab.ctx.fns[42]? = some (Q.F_law_pick 41) := rfl
theorem at_law_fr : tab.ctx.fns[43]? = some (Q.F_law_fr) := rfl
theorem at_law_plus : tab.ctx.fns[44]? = some (Q.F_law_plus 43) := rfl
theorem at_law_minus : tab.ctx.fns[45]? = some (Q.F_law_minus 43) := rfl
theorem at_law_times : tab.ctx.fns[46]? = some (Q.F_law_times 43) := rfl
theorem at_law_is_under : tab.ctx.fns[47]? = some (Q.F_law_is_under) := rfl
theorem at_law_dot : tab.ctx.fns[48]? = some (Q.F_law_dot 44 46) := rfl
theorem at_law_is_number : tab.ctx.fns[49]? = some (Q.F_law_is_number 43) := rfl
theorem at_law_is_row : tab.ctx.fns[50]? = some (Q.F_law_is_row 49) := rfl
theorem at_law_sum_of : tab.ctx.fns[51]? = some (Q.F_law_sum_of 44) := rfl
theorem at_law_by : tab.ctx.fns[52]? = some (Q.F_law_by 46) := rfl
theorem at_law_sr_unit : tab.ctx.fns[53]? = some (Q.F_law_sr_unit) := rfl
theorem at_law_sr_number : tab.ctx.fns[54]? = some (Q.F_law_sr_number 43 41 42) := rfl
theorem at_law_sr_row : tab.ctx.fns[55]? = some (Q.F_law_sr_row 54) := rfl
theorem at_law_sr_chances : tab.ctx.fns[56]? = some (Q.F_law_sr_chances 41 43) := rfl
theorem at_law_sr_is_chances : tab.ctx.fns[57]? = some (Q.F_law_sr_is_chances 50 44) := rfl
theorem at_law_is_table : tab.ctx.fns[58]? = some (Q.F_law_is_table 57) := rfl
theorem at_law_near : tab.ctx.fns[59]? = some (Q.F_law_near 41 44 45 46) := rfl
theorem at_law_judged_right : tab.ctx.fns[60]? = some (Q.F_law_judged_right 59 29 57 41 30 58) := rfl
theorem at_law_between : tab.ctx.fns[61]? = some (Q.F_law_between 51 52 45) := rfl
theorem at_law_lone_right : tab.ctx.fns[62]? = some (Q.F_law_lone_right 41 43 31 53 33 34 61 29 36 48 44 46 45 52 35 39 47) := rfl
theorem at_law_forth : tab.ctx.fns[63]? = some (Q.F_law_forth 51 52) := rfl
theorem at_law_tables_right : tab.ctx.fns[64]? = some (Q.F_law_tables_right 41 56 43 37 63 29 61 38) := rfl
theorem at_law_right : tab.ctx.fns[65]? = some (Q.F_law_right 41 56 55 60 64 62) := rfl
theorem at_law : tab.ctx.fns[66]? = some (Q.F_law 40 65 35 33) := rfl
end X35
namespace X35
open PySem Q
abbrev C : Q.Ctx := tab.ctx
theorem g0 : C.glb[0]? = some (num 0) := rfl
theorem g1 : C.glb[1]? = some (num 1) := rfl
theorem g2 : C.glb[2]? = some (.int 8) := rfl
theorem big : Big C := ⟨fun b h => Nat.lt_of_lt_of_le h (Nat.pow_le_pow_right (by decide) (by decide))⟩
-- the package
theorem p_int : SJ C 1 0 100 isI := isint_spec at_is_integer
theorem p_num : SJ C 2 2 100 isNum := isnum_spec big at_is_number p_int at_common_divisor (by decide)
theorem p_count : SCount C 2 4 := count_spec at_require_count p_int
theorem p_add : SAdd C 3 5 := add_of big at_added at_reduced at_common_divisor
theorem p_mul : SMul C 3 6 := mul_of big at_multiplied at_reduced at_common_divisor
theorem p_neg : SNeg C 1 7 := neg_of at_opposite
theorem p_div : SDiv C 3 8 := div_of big at_divided at_reduced at_common_divisor
theorem p_sum : SSum C 4 9 := sum_spec at_sum_of p_add g0
theorem p_row : SJw C 3 10 (fun _ S x => Va 100 S.length x) isRow := isrow_spec at_is_plain_row p_num
theorem p_rest : SRest C 1 11 := rest_spec at_rest_row g0
theorem p_unit : SUnit C 1 12 := unit_spec at_unit_row g1 g0
theorem p_addR : SAddR C 4 13 := addR_gen at_sum_of_rows rfl p_add
theorem p_mulR : SMulR C 4 14 := mulR_spec at_times_row p_mul g0
theorem p_dot : SDot C 4 15 := dot_spec at_product_of p_add p_mul g0
theorem p_led : SLed C 5 16 := led_spec at_led_told (p_rest.up (by decide)) p_addR p_mulR g0
theorem p_pos : SPos C 1 17 := pos_spec at_are_from_nought
theorem p_mix : SJw C 4 18 (fun _ S x => Va 100 S.length x) isMix := mix_spec at_is_plain_mix p_row (p_pos.up (by decide))
theorem p_width : SWidth C 3 19 := width_spec at_require_width p_count g2
theorem p_ch : SIsCh C 5 20 := ch_spec at_is_plain_chances p_mix p_sum g1
theorem p_tb : SIsTb C 6 21 := tb_spec at_are_chance_rows p_ch
theorem p_rch : SReqCh C 6 22 := reqch_spec at_require_chances p_ch
theorem p_rtb : SReqT C 7 23 := reqtab_spec at_require_chance_table p_tb
theorem p_rln : SReqLn C 4 24 := reqln_spec at_require_line p_row
theorem p_rsh : SReqSh C 3 25 := reqsh_spec at_require_share p_num
theorem p_by : SBy C 6 26 := by_spec at_behind_by p_led
theorem p_btwby : SBetw C 5 27 := betwby_spec at_between_by p_addR p_mulR (p_add.up (by decide)) (p_neg.up (by decide)) g1
theorem p_wby : ∀ w k p, w ≤ 8 → Ln w k p → sumL p ≠ 0 → k ≤ 100 → Sp C 5 28 [row p] (.v (row (p.map ((1 / sumL p) * ·)))) := wby_spec at_weighed_by p_mulR (p_div.up (by decide)) p_sum g1
theorem p_isch : SJw C 6 29 (fun w S x => Va 100 S.length x ∧ 1 ≤ w ∧ w ≤ 8) isCh := ischances_spec at_is_chances (p_width.up (by decide)) p_ch
theorem p_istb : SJt C 7 30 (fun g w S x => Vt 100 S.length x ∧ 1 ≤ w ∧ w ≤ 8 ∧ 1 ≤ g ∧ g ≤ 8) isTb := istable_spec at_is_chance_table (p_width.up (by decide)) p_tb
theorem p_sure : SSure C 4 31 := sure_spec at_sure_chances p_width (p_int.up (by decide)) (p_unit.up (by decide))
theorem p_even : SEven C 4 33 := even_spec at_even_chances p_width fun w h1 h2 => (evenby_spec at_even_by w h1 h2).up (by decide)
theorem p_betw : SBet C 7 34 := between_spec at_between (p_width.up (by decide)) (p_rsh.up (by decide)) p_rch (p_btwby.up (by decide))
theorem p_spots : SSpots C 7 35 := spots_spec at_spots (p_width.up (by decide)) p_rch
theorem p_mean : SMean C 7 36 := mean_spec at_mean (p_width.up (by decide)) p_rch (p_rln.up (by decide)) (p_dot.up (by decide))
theorem p_beh : SBeh C 8 37 := behind_spec at_behind_table (p_width.up (by decide)) p_rtb (p_rch.up (by decide)) (p_by.up (by decide))
theorem p_behT : SBehT C 8 38 := tbehind_spec at_table_behind (p_width.up (by decide)) p_rtb (p_by.up (by decide))
theorem p_weigh : SWeigh C 6 39 := weighed_spec at_weighed (p_width.up (by decide)) (p_mix.up (by decide)) p_wby
-- the law
theorem l_roll : SRoll C 1 41 := roll_spec at_law_roll
theorem l_add : SAdd C 2 44 := ladd_of big at_law_plus at_law_fr
theorem l_sub : SSub C 2 45 := lsub_of big at_law_minus at_law_fr
theorem l_mul : SMul C 2 46 := lmul_of big at_law_times at_law_fr
theorem l_less : SLess C 1 47 := less_of at_law_is_under
theorem l_dot : SDot C 3 48 := ldot_spec at_law_dot l_add l_mul
theorem l_num : SJ C 2 49 100 isNum := lnum_spec (d := 0) big at_law_is_number at_law_fr (by decide)
theorem l_row : SJw C 3 50 (fun _ S x => Va 100 S.length x) isRow := lrow_spec at_law_is_row l_num
theorem l_addR : SAddR C 3 51 := addR_gen at_law_sum_of rfl l_add
theorem l_mulR : SMulR C 3 52 := byR_spec at_law_by l_mul
theorem l_unit : SUnit C 1 53 := lunit_spec at_law_sr_unit
theorem l_srnum : SDraw C 3 54 2 [] (fun x => ∃ q, x = num q ∧ Sz 4 q) := srnum_spec (d := 0) big at_law_sr_number at_law_fr l_roll at_law_pick
theorem l_srrow (w : Nat) (h : w ≤ 8) : SDraw C 4 55 16 [.int w] (fun x => ∃ r, x = row r ∧ Ln w 4 r) := srrow_spec at_law_sr_row l_srnum w h
theorem l_srch (w : Nat) (h1 : 1 ≤ w) (h : w ≤ 8) : SDraw C 2 56 9 [.int w] (fun x => ∃ r, x = row r ∧ Ch w 6 r) := srch_spec (d := 0) big at_law_sr_chances l_roll at_law_fr w h1 h
theorem l_ch : SIsCh C 4 57 := lch_spec at_law_sr_is_chances l_row (l_add.up (by decide))
theorem l_tb : SIsTb C 5 58 := ltb_spec at_law_is_table l_ch
theorem l_near : SNear C 3 59 := near_spec at_law_near (l_roll.up (by decide)) l_add l_sub l_mul
theorem l_judged : ∀ w p t, 1 ≤ w → w ≤ 8 → Ch w 6 p → (∀ q ∈ t, Ch w 6 q) → 1 ≤ t.length → t.length ≤ 8 → SDraw C 9 60 3 [.int w, row p, tabD t] (· = .bl true) :=
  judged_spec (d := 8) at_law_judged_right (l_near.up (by decide)) (p_isch.up (by decide)) (l_ch.up (by decide)) (l_roll.up (by decide)) (p_istb.up (by decide)) (l_tb.up (by decide))
theorem l_betw : SBetw C 4 61 := lbetw_spec at_law_between l_addR l_mulR (l_sub.up (by decide))
theorem l_lone : ∀ (w : Nat) p q l, 1 ≤ w → w ≤ 8 → Ch w 6 p → Ch w 6 q → Ln w 4 l → SDraw C 9 62 10 [.int w, row p, row q, row l] (· = .bl true) :=
  lone_spec (d := 7) big at_law_lone_right (l_roll.up (by decide)) at_law_fr (p_sure.up (by decide)) (l_unit.up (by decide)) (p_even.up (by decide)) (p_betw.up (by decide)) (l_betw.up (by decide)) (p_isch.up (by decide)) (p_mean.up (by decide)) (l_dot.up (by decide)) (l_add.up (by decide)) (l_mul.up (by decide)) (l_sub.up (by decide)) (l_mulR.up (by decide)) (p_spots.up (by decide)) (p_weigh.up (by decide)) (l_less.up (by decide))
theorem l_forth : SLed C 4 63 := forth_spec at_law_forth l_addR l_mulR
theorem l_tables : ∀ w : Nat, 1 ≤ w → w ≤ 8 → SDraw C 9 64 200 [.int w] (· = .bl true) :=
  tables_spec (d := 7) big at_law_tables_right (l_roll.up (by decide)) (fun w h1 h => (l_srch w h1 h).up (by decide)) at_law_fr p_beh (l_forth.up (by decide)) (p_isch.up (by decide)) (l_betw.up (by decide)) p_behT
theorem l_right : SDraw C 10 65 400 [] (· = .bl true) :=
  right_spec (d := 9) at_law_right (l_roll.up (by decide)) (fun w h1 h => (l_srch w h1 h).up (by decide)) (fun w h => (l_srrow w h).up (by decide)) l_judged l_tables l_lone
theorem law_true (ns : List Int) (_ : ns.length ≤ 63) : ∃ S, Q.evCall tab.ctx 40 (Q.lawIx tab) [.fl (ns.map Q.D.int)] [] = .ok (.v (.bl true)) S :=
  law_spec (d := 9) (S := []) at_law at_law_dice l_right (p_spots.up (by decide)) (p_even.up (by decide)) ns 29
end X35
end
section
-- X35E
set_option Elab.async false
set_option linter.all false
set_option maxRecDepth 100000
open PySem PySem.W PyProof.Rows
set_option maxHeartbeats 0 in
theorem PySem.Challenge.cw_sightroads_k35_whole_chances_holds : PySem.Challenge.rw_sightroads_k35_whole_chances.Holds := by
  w_on; o_law; k_head; (case hw => w_witness2)
  k_fill
  refine L2.walk_of (l := PySem.Challenge.rw_sightroads_k35_whole_chances) (n := 63) (k := 40) (x := "script") (CX := fun w => L2.CX (PySem.Challenge.rw_sightroads_k35_whole_chances).prog w) (sp := fun w => Q.spC Q.RX0 _ (Q.evCall X35.tab.ctx 40) 66) rfl (by decide) rfl ⟨rfl, by decide, by decide⟩ (fun w h Y => PySem.W.kIn_of Y) ?F (fun w H a ns hl ho hS => (fun ⟨S, e⟩ => Q.script_sp ho hS e) (X35.law_true ns hl)) (fun _ _ _ _ _ h => Q.cx_no h)
  case F =>
    intro w mg fa h KX G hmg
    have F0 := Q.fat_mk KX G (d := X35.f0) (st := X35.st 0) (x := "is_integer") rfl (by k_is) (by k_is) (by k_is) (by k_is) rfl X35.a0
    have F1 := Q.fat_mk KX G (d := X35.f1) (st := X35.st 1) (x := "common_divisor") rfl (by k_is) (by k_is) (by k_is) (by k_is) rfl X35.a1
    have F2 := Q.fat_mk KX G (d := X35.f2) (st := X35.st 2) (x := "is_number") rfl (by k_is) (by k_is) (by k_is) (by k_is) rfl X35.a2
    have F3 := Q.fat_mk KX G (d := X35.f3) (st := X35.st 3) (x := "reduced") rfl (by k_is) (by k_is) (by k_is) (by k_is) rfl X35.a3
    have F4 := Q.fat_mkD KX G (d := X35.f4) (st := X35.st 4) (x := "require_count") (is := [0, 60]) rfl (by k_is) (by k_is) (by k_is) (by k_is) (by k_is) rfl (by repeat constructor) (by decide) (by decide) X35.a4
    have F5 := Q.fat_mk KX G (d := X35.f5) (st := X35.st 5) (x := "added") rfl (by k_is) (by k_is) (by k_is) (by k_is) rfl X35.a5
    have F6 := Q.fat_mk KX G (d := X35.f6) (st := X35.st 6) (x := "multiplied") rfl (by k_is) (by k_is) (by k_is) (by k_is) rfl X35.a6
    have F7 := Q.fat_mk KX G (d := X35.f7) (st := X35.st 7) (x := "opposite") rfl (by k_is) (by k_is) (by k_is) (by k_is) rfl X35.a7
    have F8 := Q.fat_mk KX G (d := X35.f8) (st := X35.st 8) (x := "divided") rfl (by k_is) (by k_is) (by k_is) (by k_is) rfl X35.a8
    have F9 := Q.fat_mk KX G (d := X35.f9) (st := X35.st 9) (x := "sum_of") rfl (by k_is) (by k_is) (by k_is) (by k_is) rfl X35.a9
    have F10 := Q.fat_mk KX G (d := X35.f10) (st := X35.st 10) (x := "is_plain_row") rfl (by k_is) (by k_is) (by k_is) (by k_is) rfl X35.a10
    have F11 := Q.fat_mk KX G (d := X35.f11) (st := X35.st 11) (x := "rest_row") rfl (by k_is) (by k_is) (by k_is) (by k_is) rfl X35.a11
    have F12 := Q.fat_mk KX G (d := X35.f12) (st := X35.st 12) (x := "unit_row") rfl (by k_is) (by k_is) (by k_is) (by k_is) rfl X35.a12
    have F13 := Q.fat_mk KX G (d := X35.f13) (st := X35.st 13) (x := "sum_of_rows") rfl (by k_is) (by k_is) (by k_is) (by k_is) rfl X35.a13
    have F14 := Q.fat_mk KX G (d := X35.f14) (st := X35.st 14) (x := "times_row") rfl (by k_is) (by k_is) (by k_is) (by k_is) rfl X35.a14
    have F15 := Q.fat_mk KX G (d := X35.f15) (st := X35.st 15) (x := "product_of") rfl (by k_is) (by k_is) (by k_is) (by k_is) rfl X35.a15
    have F16 := Q.fat_mk KX G (d := X35.f16) (st := X35.st 16) (x := "led_told") rfl (by k_is) (by k_is) (by k_is) (by k_is) rfl X35.a16
    have F17 := Q.fat_mk KX G (d := X35.f17) (st := X35.st 17) (x := "are_from_nought") rfl (by k_is) (by k_is) (by k_is) (by k_is) rfl X35.a17
    have F18 := Q.fat_mk KX G (d := X35.f18) (st := X35.st 18) (x := "is_plain_mix") rfl (by k_is) (by k_is) (by k_is) (by k_is) rfl X35.a18
    have F19 := Q.fat_mk KX G (d := X35.f19) (st := X35.st 19) (x := "require_width") rfl (by k_is) (by k_is) (by k_is) (by k_is) rfl X35.a19
    have F20 := Q.fat_mk KX G (d := X35.f20) (st := X35.st 20) (x := "is_plain_chances") rfl (by k_is) (by k_is) (by k_is) (by k_is) rfl X35.a20
    have F21 := Q.fat_mk KX G (d := X35.f21) (st := X35.st 21) (x := "are_chance_rows") rfl (by k_is) (by k_is) (by k_is) (by k_is) rfl X35.a21
    have F22 := Q.fat_mk KX G (d := X35.f22) (st := X35.st 22) (x := "require_chances") rfl (by k_is) (by k_is) (by k_is) (by k_is) rfl X35.a22
    have F23 := Q.fat_mk KX G (d := X35.f23) (st := X35.st 23) (x := "require_chance_table") rfl (by k_is) (by k_is) (by k_is) (by k_is) rfl X35.a23
    have F24 := Q.fat_mk KX G (d := X35.f24) (st := X35.st 24) (x := "require_line") rfl (by k_is) (by k_is) (by k_is) (by k_is) rfl X35.a24
    have F25 := Q.fat_mk KX G (d := X35.f25) (st := X35.st 25) (x := "require_share") rfl (by k_is) (by k_is) (by k_is) (by k_is) rfl X35.a25
    have F26 := Q.fat_mk KX G (d := X35.f26) (st := X35.st 26) (x := "behind_by") rfl (by k_is) (by k_is) (by k_is) (by k_is) rfl X35.a26
    have F27 := Q.fat_mk KX G (d := X35.f27) (st := X35.st 27) (x := "between_by") rfl (by k_is) (by k_is) (by k_is) (by k_is) rfl X35.a27
    have F28 := Q.fat_mk KX G (d := X35.f28) (st := X35.st 28) (x := "weighed_by") rfl (by k_is) (by k_is) (by k_is) (by k_is) rfl X35.a28
    have F29 := Q.fat_mk KX G (d := X35.f29) (st := X35.st 29) (x := "is_chances") rfl (by k_is) (by k_is) (by k_is) (by k_is) rfl X35.a29
    have F30 := Q.fat_mk KX G (d := X35.f30) (st := X35.st 30) (x := "is_chance_table") rfl (by k_is) (by k_is) (by k_is) (by k_is) rfl X35.a30
    have F31 := Q.fat_mk KX G (d := X35.f31) (st := X35.st 31) (x := "sure_chances") rfl (by k_is) (by k_is) (by k_is) (by k_is) rfl X35.a31
    have F32 := Q.fat_mk KX G (d := X35.f32) (st := X35.st 32) (x := "even_by") rfl (by k_is) (by k_is) (by k_is) (by k_is) rfl X35.a32
    have F33 := Q.fat_mk KX G (d := X35.f33) (st := X35.st 33) (x := "even_chances") rfl (by k_is) (by k_is) (by k_is) (by k_is) rfl X35.a33
    have F34 := Q.fat_mk KX G (d := X35.f34) (st := X35.st 34) (x := "between") rfl (by k_is) (by k_is) (by k_is) (by k_is) rfl X35.a34
    have F35 := Q.fat_mk KX G (d := X35.f35) (st := X35.st 35) (x := "spots") rfl (by k_is) (by k_is) (by k_is) (by k_is) rfl X35.a35
    have F36 := Q.fat_mk KX G (d := X35.f36) (st := X35.st 36) (x := "mean") rfl (by k_is) (by k_is) (by k_is) (by k_is) rfl X35.a36
    have F37 := Q.fat_mk KX G (d := X35.f37) (st := X35.st 37) (x := "behind_table") rfl (by k_is) (by k_is) (by k_is) (by k_is) rfl X35.a37
    have F38 := Q.fat_mk KX G (d := X35.f38) (st := X35.st 38) (x := "table_behind") rfl (by k_is) (by k_is) (by k_is) (by k_is) rfl X35.a38
    have F39 := Q.fat_mk KX G (d := X35.f39) (st := X35.st 39) (x := "weighed") rfl (by k_is) (by k_is) (by k_is) (by k_is) rfl X35.a39
    have F40 := Q.fat_mk KX G (d := X35.f40) (st := X35.st 40) (x := "_law_dice") rfl (by k_is) (by k_is) (by k_is) (by k_is) rfl X35.a40
    have F41 := Q.fat_mk KX G (d := X35.f41) (st := X35.st 41) (x := "_law_roll") rfl (by k_is) (by k_is) (by k_is) (by k_is) rfl X35.a41
    have F42 := Q.fat_mk KX G (d := X35.f42) (st := X35.st 42) (x := "_law_pick") rfl (by k_is) (by k_is) (by k_is) (by k_is) rfl X35.a42
    have F43 := Q.fat_mk KX G (d := X35.f43) (st := X35.st 43) (x := "_law_fr") rfl (by k_is) (by k_is) (by k_is) (by k_is) rfl X35.a43
    have F44 := Q.fat_mk KX G (d := X35.f44) (st := X35.st 44) (x := "_law_plus") rfl (by k_is) (by k_is) (by k_is) (by k_is) rfl X35.a44
    have F45 := Q.fat_mk KX G (d := X35.f45) (st := X35.st 45) (x := "_law_minus") rfl (by k_is) (by k_is) (by k_is) (by k_is) rfl X35.a45
    have F46 := Q.fat_mk KX G (d := X35.f46) (st := X35.st 46) (x := "_law_times") rfl (by k_is) (by k_is) (by k_is) (by k_is) rfl X35.a46
    have F47 := Q.fat_mk KX G (d := X35.f47) (st := X35.st 47) (x := "_law_is_under") rfl (by k_is) (by k_is) (by k_is) (by k_is) rfl X35.a47
    have F48 := Q.fat_mk KX G (d := X35.f48) (st := X35.st 48) (x := "_law_dot") rfl (by k_is) (by k_is) (by k_is) (by k_is) rfl X35.a48
    have F49 := Q.fat_mk KX G (d := X35.f49) (st := X35.st 49) (x := "_law_is_number") rfl (by k_is) (by k_is) (by k_is) (by k_is) rfl X35.a49
    have F50 := Q.fat_mk KX G (d := X35.f50) (st := X35.st 50) (x := "_law_is_row") rfl (by k_is) (by k_is) (by k_is) (by k_is) rfl X35.a50
    have F51 := Q.fat_mk KX G (d := X35.f51) (st := X35.st 51) (x := "_law_sum_of") rfl (by k_is) (by k_is) (by k_is) (by k_is) rfl X35.a51
    have F52 := Q.fat_mk KX G (d := X35.f52) (st := X35.st 52) (x := "_law_by") rfl (by k_is) (by k_is) (by k_is) (by k_is) rfl X35.a52
    have F53 := Q.fat_mk KX G (d := X35.f53) (st := X35.st 53) (x := "_law_sr_unit") rfl (by k_is) (by k_is) (by k_is) (by k_is) rfl X35.a53
    have F54 := Q.fat_mk KX G (d := X35.f54) (st := X35.st 54) (x := "_law_sr_number") rfl (by k_is) (by k_is) (by k_is) (by k_is) rfl X35.a54
    have F55 := Q.fat_mk KX G (d := X35.f55) (st := X35.st 55) (x := "_law_sr_row") rfl (by k_is) (by k_is) (by k_is) (by k_is) rfl X35.a55
    have F56 := Q.fat_mk KX G (d := X35.f56) (st := X35.st 56) (x := "_law_sr_chances") rfl (by k_is) (by k_is) (by k_is) (by k_is) rfl X35.a56
    have F57 := Q.fat_mk KX G (d := X35.f57) (st := X35.st 57) (x := "_law_sr_is_chances") rfl (by k_is) (by k_is) (by k_is) (by k_is) rfl X35.a57
    have F58 := Q.fat_mk KX G (d := X35.f58) (st := X35.st 58) (x := "_law_is_table") rfl (by k_is) (by k_is) (by k_is) (by k_is) rfl X35.a58
    have F59 := Q.fat_mk KX G (d := X35.f59) (st := X35.st 59) (x := "_law_near") rfl (by k_is) (by k_is) (by k_is) (by k_is) rfl X35.a59
    have F60 := Q.fat_mk KX G (d := X35.f60) (st := X35.st 60) (x := "_law_judged_right") rfl (by k_is) (by k_is) (by k_is) (by k_is) rfl X35.a60
    have F61 := Q.fat_mk KX G (d := X35.f61) (st := X35.st 61) (x := "_law_between") rfl (by k_is) (by k_is) (by k_is) (by k_is) rfl X35.a61
    have F62 := Q.fat_mk KX G (d := X35.f62) (st := X35.st 62) (x := "_law_lone_right") rfl (by k_is) (by k_is) (by k_is) (by k_is) rfl X35.a62
    have F63 := Q.fat_mk KX G (d := X35.f63) (st := X35.st 63) (x := "_law_forth") rfl (by k_is) (by k_is) (by k_is) (by k_is) rfl X35.a63
    have F64 := Q.fat_mk KX G (d := X35.f64) (st := X35.st 64) (x := "_law_tables_right") rfl (by k_is) (by k_is) (by k_is) (by k_is) rfl X35.a64
    have F65 := Q.fat_mk KX G (d := X35.f65) (st := X35.st 65) (x := "_law_right") rfl (by k_is) (by k_is) (by k_is) (by k_is) rfl X35.a65
    have F66 := Q.fat_mk KX G (d := X35.f66) (st := X35.st 66) (x := "law") rfl (by k_is) (by k_is) (by k_is) (by k_is) rfl X35.a66
    have G0 := Q.g_tup KX G (x := "NOUGHT") (is := [0, 1]) (by k_is) (by k_is) (by decide) (by repeat constructor)
    have G1 := Q.g_tup KX G (x := "ONE") (is := [1, 1]) (by k_is) (by k_is) (by decide) (by repeat constructor)
    have G2 := Q.g_int KX G (x := "MAX_WIDTH") (i := 8) (by k_is)
    have B0 : mg "len" = none := PySem.W.mg_none_of KX G (by k_is)
    have B1 : mg "abs" = none := PySem.W.mg_none_of KX G (by k_is)
    have B2 : mg "int" = none := PySem.W.mg_none_of KX G (by k_is)
    have B3 : mg "bool" = none := PySem.W.mg_none_of KX G (by k_is)
    have B4 : mg "all" = none := PySem.W.mg_none_of KX G (by k_is)
    have B5 : mg "any" = none := PySem.W.mg_none_of KX G (by k_is)
    have B6 : mg "tuple" = none := PySem.W.mg_none_of KX G (by k_is)
    have B7 : mg "list" = none := PySem.W.mg_none_of KX G (by k_is)
    have B8 : mg "repr" = none := PySem.W.mg_none_of KX G (by k_is)
    have B9 : mg "min" = none := PySem.W.mg_none_of KX G (by k_is)
    have B10 : mg "max" = none := PySem.W.mg_none_of KX G (by k_is)
    have B11 : mg "divmod" = none := PySem.W.mg_none_of KX G (by k_is)
    have B12 : mg "str" = none := PySem.W.mg_none_of KX G (by k_is)
    have B13 : mg "dict" = none := PySem.W.mg_none_of KX G (by k_is)
    have B14 : mg "isinstance" = none := PySem.W.mg_none_of KX G (by k_is)
    have B15 : mg "range" = none := PySem.W.mg_none_of KX G (by k_is)
    have B16 : mg "zip" = none := PySem.W.mg_none_of KX G (by k_is)
    have B17 : mg "enumerate" = none := PySem.W.mg_none_of KX G (by k_is)
    have tok := Q.tok_of (T := X35.tab) (st := X35.st) ⟨⟨X35.o0, F0⟩, ⟨X35.o1, F1⟩, ⟨X35.o2, F2⟩, ⟨X35.o3, F3⟩, ⟨X35.o4, F4⟩, ⟨X35.o5, F5⟩, ⟨X35.o6, F6⟩, ⟨X35.o7, F7⟩, ⟨X35.o8, F8⟩, ⟨X35.o9, F9⟩, ⟨X35.o10, F10⟩, ⟨X35.o11, F11⟩, ⟨X35.o12, F12⟩, ⟨X35.o13, F13⟩, ⟨X35.o14, F14⟩, ⟨X35.o15, F15⟩, ⟨X35.o16, F16⟩, ⟨X35.o17, F17⟩, ⟨X35.o18, F18⟩, ⟨X35.o19, F19⟩, ⟨X35.o20, F20⟩, ⟨X35.o21, F21⟩, ⟨X35.o22, F22⟩, ⟨X35.o23, F23⟩, ⟨X35.o24, F24⟩, ⟨X35.o25, F25⟩, ⟨X35.o26, F26⟩, ⟨X35.o27, F27⟩, ⟨X35.o28, F28⟩, ⟨X35.o29, F29⟩, ⟨X35.o30, F30⟩, ⟨X35.o31, F31⟩, ⟨X35.o32, F32⟩, ⟨X35.o33, F33⟩, ⟨X35.o34, F34⟩, ⟨X35.o35, F35⟩, ⟨X35.o36, F36⟩, ⟨X35.o37, F37⟩, ⟨X35.o38, F38⟩, ⟨X35.o39, F39⟩, ⟨X35.o40, F40⟩, ⟨X35.o41, F41⟩, ⟨X35.o42, F42⟩, ⟨X35.o43, F43⟩, ⟨X35.o44, F44⟩, ⟨X35.o45, F45⟩, ⟨X35.o46, F46⟩, ⟨X35.o47, F47⟩, ⟨X35.o48, F48⟩, ⟨X35.o49, F49⟩, ⟨X35.o50, F50⟩, ⟨X35.o51, F51⟩, ⟨X35.o52, F52⟩, ⟨X35.o53, F53⟩, ⟨X35.o54, F54⟩, ⟨X35.o55, F55⟩, ⟨X35.o56, F56⟩, ⟨X35.o57, F57⟩, ⟨X35.o58, F58⟩, ⟨X35.o59, F59⟩, ⟨X35.o60, F60⟩, ⟨X35.o61, F61⟩, ⟨X35.o62, F62⟩, ⟨X35.o63, F63⟩, ⟨X35.o64, F64⟩, ⟨X35.o65, F65⟩, ⟨X35.o66, F66⟩, trivial⟩ ⟨G0, G1, G2, trivial⟩ ⟨B0, B1, B2, B3, B4, B5, B6, B7, B8, B9, B10, B11, B12, B13, B14, B15, B16, B17, trivial⟩
    have FL := Q.law_at KX G (x := "law") (y := "script") (d := X35.f66) (st := X35.st 66) hmg rfl (by k_is) (by k_is) (by k_is) (by k_is) rfl X35.a66 rfl
    obtain ⟨fd, FL, hb⟩ := FL
    exact ⟨fd, hb, fun base _ _ => Q.law_fn (f := 66) tok rfl FL rfl base⟩
end
