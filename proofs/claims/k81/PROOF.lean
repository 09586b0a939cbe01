import PyProof.Rows.All
import PySem.Syntax
import PyProof.StrBlock2
import KE.IntText
import PyProof.StrBlockL
import PyProof.StrCalls6
import HandS.ForMost
import HandS.Wide
import HandS.Gcd
import HandS.IsInst
import HandS.Style
import HandS.Defaults
import HandS.TupMul
import HandS.TupAny
import HandS.WideBits
import HandS.AnyAll
import HandS.HeadHook4
import HandS.Dict
import PyProof.SumWalkG
import PyProof.WalksMore
import HandS.RaiseMore
import HandS.StrMore
import HandS.Replace
import HandS.SortInts
import HandS.WordsDict
import HandS.Iter
import PyProof.Draws
import PyProof.EnumMake
import PyProof.Rows.ChunkLeaf
import HandS.Conv
import HandS.Zip0
import HandS.Zip
import HandS.Rev
import Wide.All
import OpenK.AllK
import Wide.FinOn
import HandS.Base
import HandS.Call
import HandS.Exc
import HandS.ExcOwn
import KE.KExcSuper
import KE.KExcInit
import HandS.Ends
import HandS.ExcInit
import KE.KExcIs
import HandS.ExcField
import HandS.CallRecv
import HandS.HeadWalk
import PyProof.GenCompD
import HandS.GenOver
import HandS.ReplaceLit
import HandS.EndBits
import HandS.EndTab
import HandS.Head0
import HandS.Head1
import HandS.Head2
import HandS.HeadEnd
import PyProof.Rows.ReprOcc
import PyProof.Rows.StrStrike
import PyProof.Rows.StrCut
import PyProof.StrLawsFirst
import HandS.Head3
import PySem.Challenge.RW_lastfigure_k81_heads
set_option linter.all false
namespace MP
open PySem (Str Operator CmpOp)

/-- a value: data, or a place in the store -/
inductive D where
  | non | bl (b : Bool) | int (i : Int) | str (s : Str) | tup (ds : List D) | loc (n : Nat)
  /-- a list that is only read -/
  | rol (ds : List D)
  deriving Inhabited

/-- what stands at a place: a list, an instance, a dict -/
inductive O where
  | lst (ds : List D) | ins (c : Str) (fs : List (Str × D)) | dic (kvs : List (Sum Int Str × D))
  deriving Inhabited

/-- an exception: its class, its fields -/
structure Exn where
  cls : Str
  fs : List (Str × D)

abbrev Sto := List O
abbrev Env := List (Option D)
abbrev R (α : Type) := Option (Except Exn α × Sto)
abbrev ok {α : Type} (a : α) (st : Sto) : R α := some (.ok a, st)
def bnd {α β : Type} (r : R α) (f : α → Sto → R β) : R β := r.bind fun p => match p with
  | (.ok a, s) => f a s
  | (.error e, s) => some (.error e, s)
@[simp] theorem bnd_ok {α β : Type} (a : α) (s : Sto) (f : α → Sto → R β) : bnd (some (.ok a, s)) f = f a s := (rfl)
@[simp] theorem bnd_none {α β : Type} (f : α → Sto → R β) : bnd none f = none := (rfl)
@[simp] theorem bnd_err {α β : Type} (e : Exn) (s : Sto) (f : α → Sto → R β) : bnd (some (.error e, s)) f = some (.error e, s) := (rfl)

/-- errors are not served here -/
def noX {α : Type} : R α → R α
  | some (.ok a, s) => some (.ok a, s)
  | _ => none
@[simp] theorem noX_ok {α : Type} (a : α) (s : Sto) : noX (some (.ok a, s)) = some (.ok a, s) := (rfl)
@[simp] theorem noX_none {α : Type} : noX (none : R α) = none := (rfl)
/-- the longest list, tuple, text -/
def LINE : Nat := 16777216
/-- the greatest factors' bits together -/
def BITS : Nat := 134217000
def DIVB : Nat := 8999

inductive Ty where | int | bool | str | tuple | list
  deriving DecidableEq
inductive Bi where | len | abs | int | tuple | list | min | max | gcd | sum | str | sorted
  deriving DecidableEq
inductive Mt where | append | pop | popAt | extend | reverse | startswith | endswith | lstrip | index | find | isdigit | split | join
  deriving DecidableEq
inductive IK where | seq | rng1 | rng2 | rng3 | enum | zip | rev
  deriving DecidableEq
/-- what a generator expression is handed to -/
inductive Ag where | sum | all | any
  deriving DecidableEq
inductive G where | v (i : Nat) | tup (gs : List G)

inductive T where
  | v (i : Nat) | int (i : Int) | bl (b : Bool) | non | str (s : Str)
  | bin (op : Operator) (a b : T) | neg (a : T)
  | cmp (op : CmpOp) (a b : T) | chain (p q : CmpOp) (a b c : T)
  | and (a b : T) | or (a b : T) | not (a : T) | tru (a : T) | ife (c a b : T)
  | tup (es : List T) | lst (es : List T) | dnew
  | ix (a b : T) | slA (a lo : T) | slB (a hi : T) | slC (a lo hi : T)
  | call (f : Str) (es : List T) (pm : List Nat)
  | bi (p : Bi) (es : List T) | mt (m : Mt) (o : T) (es : List T)
  | isi (a : T) (t : Ty)
  /-- a constant of the module -/
  | lit (d : D)
  /-- a.f; a.m(..); C(..) -/
  | fld (a : T) (f : Str) | meth (o : T) (m : Str) (es : List T) | make (c : Str) (es : List T)
  /-- o.replace(y, z) of written texts -/
  | rpl (o : T) (y z : Str)
  /-- list(range(..)) -/
  | lrg (k : IK) (es : List T)
  | agg (p : Ag) (elt : T) (tg : G) (k : IK) (es : List T) (own : List Nat)
  | comp (elt : T) (tg : G) (k : IK) (es : List T) (cs : List T) (own : List Nat)
  | comp2 (elt : T) (tg : G) (k : IK) (es : List T) (cs : List T) (tg1 : G) (k1 : IK) (es1 : List T) (cs1 : List T) (own own1 : List Nat)

/-- what an except suite returns: e its exception -/
inductive HX where
  | non | bl (b : Bool) | int (i : Int) | str (s : Str) | fld (f : Str) | isx (cs : List Str) | ite (c a b : HX) | and (a b : HX) | not (a : HX) | tup (es : List HX) | sub (a b : HX)
inductive S where
  | expr (t : T) | ret (t : T) | retN | pass | brk | cnt
  | asg (g : G) (t : T) | aug (i : Nat) (op : Operator) (t : T) | par (is : List Nat) (ts : List T)
  | setIx (o i t : T) | augIx (o i : T) (op : Operator) (t : T)
  /-- o.f = t, o.f op= t -/
  | setFld (o : T) (f : Str) (t : T) | augFld (o : T) (f : Str) (op : Operator) (t : T)
  | rse (c : Str) (fs : List Str) (es : List T) | try_ (ret : Bool) (mx : Nat) (t : T) (hs : List (List Str × HX))
  | ife (c : T) (a b : List S) | whl (c : T) (b : List S)
  | for_ (g : G) (k : IK) (es : List T) (b : List S)

structure FD where
  np : Nat
  nv : Nat
  body : List S

inductive Fl where
  | nx (σ : Env) | bk (σ : Env) | ct (σ : Env) | rt (d : D)

/-! ### data -/
mutual
def eqD : D → D → Bool
  | .non, .non => true
  | .bl a, .bl b => a == b
  | .bl a, .int j => (if a then 1 else 0) == j
  | .int i, .bl b => i == (if b then 1 else 0)
  | .int i, .int j => i == j
  | .str x, .str y => x == y
  | .tup xs, .tup ys => eqDs xs ys
  | _, _ => false
def eqDs : List D → List D → Bool
  | [], [] => true
  | x :: xs, y :: ys => eqD x y && eqDs xs ys
  | _, _ => false
end
def strGood (s : Str) : Bool := s.cps.all fun c => decide (c < 1114112)
/-! no place within, at most k deep -/
mutual
def shp : Nat → D → Bool
  | _, .non => true
  | _, .bl _ => true
  | _, .int _ => true
  | _, .str s => strGood s
  | 0, .tup _ => false
  | k + 1, .tup ds => shps k ds
  | _, .loc _ => false
  | _, .rol _ => false
def shps : Nat → List D → Bool
  | _, [] => true
  | k, d :: ds => shp k d && shps k ds
end
/-! every place within is below n -/
mutual
def D.blw (n : Nat) : D → Bool
  | .tup ds => belows n ds
  | .rol ds => belows n ds
  | .loc m => decide (m < n)
  | _ => true
def belows (n : Nat) : List D → Bool
  | [] => true
  | d :: ds => d.blw n && belows n ds
end
/-! what is fixed for a whole law: the tables of code objects, the classes -/
class Gb where
  ts : List Nat
  cls : List Str
  /-- own exceptions that may fly -/
  xk : List Str
def O.blw (n : Nat) : O → Bool
  | .lst ds => belows n ds
  | .ins _ fs => belows n (fs.map (·.2))
  | .dic kvs => belows n (kvs.map (·.2))

/-! ### places of sequences -/
def ixN (n : Nat) (i : Int) : Option Nat := if 0 ≤ i then (if i < n then some i.toNat else none) else if -(n : Int) ≤ i then some (i + n).toNat else none
def atI {α : Type} (xs : List α) (i : Int) : Option α := (ixN xs.length i).bind fun j => xs[j]?
/-- a slice's bound among n -/
def sIx (n : Nat) (v : Int) : Nat := if v < 0 then (v + n).toNat else min v.toNat n
def cut {α : Type} (xs : List α) (lo hi : Nat) : List α := (xs.drop lo).take (hi - lo)
def chars (s : Str) : List D := s.cps.toList.map fun c => .str ⟨#[c]⟩

/-! ### operators -/
/-- a text k times -/
def repT (a : Str) (k : Int) : Str := ⟨(List.replicate k.toNat a.cps.toList).flatten.toArray⟩
open Classical in
noncomputable def binop : Operator → D → D → Sto → R D
  | .Add, .int i, .int j, st => ok (.int (i + j)) st
  | .Sub, .int i, .int j, st => ok (.int (i - j)) st
  | .Mult, .int i, .int j, st => if i.natAbs.log2 + j.natAbs.log2 < BITS then ok (.int (i * j)) st else none
  | .FloorDiv, .int i, .int j, st => if j ≠ 0 ∧ j.natAbs.log2 < DIVB then ok (.int (i.fdiv j)) st else none
  | .Mod, .int i, .int j, st => if j ≠ 0 then ok (.int (i.fmod j)) st else none
  | .Pow, .int i, .int j, st => if 0 ≤ j ∧ j ≤ 1000000 ∧ i.natAbs < 2 ^ 64 then ok (.int (i ^ j.toNat)) st else none
  | .LShift, .int i, .int j, st => if 0 ≤ j ∧ (i.natAbs.log2 : Int) + j < BITS then ok (.int (i * 2 ^ j.toNat)) st else none
  | .RShift, .int i, .int j, st => if 0 ≤ j then ok (.int (i / 2 ^ j.toNat)) st else none
  | .Add, .tup a, .tup b, st => if a.length + b.length ≤ LINE then ok (.tup (a ++ b)) st else none
  | .Add, .str a, .str b, st => if a.length + b.length ≤ LINE then ok (.str (a ++ b)) st else none
  | .Add, .loc a, .loc b, st => (match st[a]?, st[b]? with
    | some (.lst xs), some (.lst ys) => if xs.length + ys.length ≤ LINE then ok (.loc st.length) (st ++ [.lst (xs ++ ys)]) else none
    | _, _ => none)
  | .Mult, .str a, .int k, st => if -1000 ≤ k ∧ k ≤ 1000 ∧ a.length ≤ 1000 then ok (.str (repT a k)) st else none
  | .Mult, .tup a, .int k, st => if a ≠ [] ∧ 1 ≤ k ∧ k ≤ 1000 ∧ a.length ≤ 1000 then ok (.tup (List.replicate k.toNat a).flatten) st else none
  | .Mult, .loc a, .int k, st => (match st[a]? with
    | some (.lst xs) => if -9223372036854775808 ≤ k ∧ k < 9223372036854775808 ∧ xs.length * k.toNat ≤ LINE then ok (.loc st.length) (st ++ [.lst (List.replicate k.toNat xs).flatten]) else none
    | _ => none)
  | _, _, _, _ => none

/-- op= -/
def augop : Operator → D → D → Sto → R D
  | .Add, .int i, .int j, st => ok (.int (i + j)) st
  | .Sub, .int i, .int j, st => ok (.int (i - j)) st
  | .Mult, .int i, .int j, st => if i.natAbs.log2 + j.natAbs.log2 < BITS then ok (.int (i * j)) st else none
  | _, _, _, _ => none
def isNon : D → Bool
  | .non => true
  | _ => false
/-- what stands under a key -/
def dvl (kvs : List (Sum Int Str × D)) (k : Sum Int Str) : Option D := (kvs.find? fun kv => decide (kv.1 = k)).map (·.2)
def keyD : D → Option (Sum Int Str)
  | .int i => some (.inl i)
  | .str s => some (.inr s)
  | _ => none
/-- the text i within j -/
def hasT (i j : Str) : Bool := !(PySem.Builtin.Str.occurrences j i 0 j.length 1).isEmpty
def flatD : D → Bool
  | .non => true
  | .bl _ => true
  | .int _ => true
  | .str _ => true
  | _ => false
def inD (x : D) (ds : List D) : Bool := ds.any fun y => eqD y x
noncomputable def cmpop : CmpOp → D → D → Sto → R D
  | .Lt, .int i, .int j, st => ok (.bl (decide (i < j))) st
  | .LtE, .int i, .int j, st => ok (.bl (decide (i ≤ j))) st
  | .Gt, .int i, .int j, st => ok (.bl (decide (j < i))) st
  | .GtE, .int i, .int j, st => ok (.bl (decide (j ≤ i))) st
  | .Eq, .int i, .int j, st => ok (.bl (decide (i = j))) st
  | .NotEq, .int i, .int j, st => ok (.bl (!decide (i = j))) st
  | .Eq, .str i, .str j, st => ok (.bl (decide (i = j))) st
  | .NotEq, .str i, .str j, st => ok (.bl (!decide (i = j))) st
  | .Eq, .bl i, .bl j, st => ok (.bl (decide (i = j))) st
  | .NotEq, .bl i, .bl j, st => ok (.bl (!decide (i = j))) st
  | .Eq, .tup a, .tup b, st => if shps 60 a = true ∧ shps 60 b = true then ok (.bl (eqDs a b)) st else none
  | .NotEq, .tup a, .tup b, st => if shps 60 a = true ∧ shps 60 b = true then ok (.bl (!eqDs a b)) st else none
  | .Eq, .loc a, .loc b, st => (match st[a]?, st[b]? with
    | some (.lst xs), some (.lst ys) => if shps 60 xs = true ∧ shps 60 ys = true then ok (.bl (eqDs xs ys)) st else none
    | _, _ => none)
  | .NotEq, .loc a, .loc b, st => (match st[a]?, st[b]? with
    | some (.lst xs), some (.lst ys) => if shps 60 xs = true ∧ shps 60 ys = true then ok (.bl (!eqDs xs ys)) st else none
    | _, _ => none)
  | .In, .str i, .str j, st => ok (.bl (hasT i j)) st
  | .NotIn, .str i, .str j, st => ok (.bl (!hasT i j)) st
  | .In, x, .tup ds, st => if flatD x = true ∧ ds.all flatD = true then ok (.bl (inD x ds)) st else none
  | .NotIn, x, .tup ds, st => if flatD x = true ∧ ds.all flatD = true then ok (.bl (!inD x ds)) st else none
  | .In, x, .loc n, st => (match st[n]? with
    | some (.lst ds) => if flatD x = true ∧ ds.all flatD = true then ok (.bl (inD x ds)) st else none
    | some (.dic kvs) => (match keyD x with
      | some k => ok (.bl (dvl kvs k).isSome) st
      | none => none)
    | _ => none)
  | .NotIn, x, .loc n, st => (match st[n]? with
    | some (.lst ds) => if flatD x = true ∧ ds.all flatD = true then ok (.bl (!inD x ds)) st else none
    | some (.dic kvs) => (match keyD x with
      | some k => ok (.bl (!(dvl kvs k).isSome)) st
      | none => none)
    | _ => none)
  | .Is, x, .non, st => ok (.bl (isNon x)) st
  | .IsNot, x, .non, st => ok (.bl (!isNon x)) st
  | _, _, _, _ => none

def tru : D → Sto → R D
  | .non, st => ok (.bl false) st
  | .bl b, st => ok (.bl b) st
  | .int i, st => ok (.bl (i != 0)) st
  | .tup ds, st => ok (.bl (!ds.isEmpty)) st
  | .rol ds, st => ok (.bl (!ds.isEmpty)) st
  | .loc n, st => match st[n]? with
    | some (.lst ds) => ok (.bl (!ds.isEmpty)) st
    | _ => none
  | _, _ => none

def neg : D → Sto → R D
  | .int i, st => ok (.int (-i)) st
  | _, _ => none

def alloc (o : O) (st : Sto) : R D := ok (.loc st.length) (st ++ [o])

def getK (kvs : List (Sum Int Str × D)) (k : Sum Int Str) (st : Sto) : R D := match dvl kvs k with
  | some d => ok d st
  | none => none
def ixop : D → D → Sto → R D
  | .str s, .int i, st => if s.length ≤ LINE then (match atI s.cps.toList i with
    | some c => ok (.str ⟨#[c]⟩) st
    | none => none) else none
  | .tup ds, .int i, st => match atI ds i with
    | some d => ok d st
    | none => none
  | .rol ds, .int i, st => match atI ds i with
    | some d => ok d st
    | none => none
  | .loc n, .int i, st => match st[n]? with
    | some (.lst ds) => (match atI ds i with
      | some d => ok d st
      | none => none)
    | some (.dic kvs) => getK kvs (.inl i) st
    | _ => none
  | .loc n, .str s, st => (match st[n]? with
    | some (.dic kvs) => getK kvs (.inr s) st
    | _ => none)
  | _, _, _ => none

/-- a slice's bound; none where it is left out -/
def bd : Option D → Option (Option Int)
  | none => some none
  | some (.int i) => some (some i)
  | _ => none
def loN (n : Nat) : Option Int → Nat
  | none => 0
  | some i => sIx n i
def hiN (n : Nat) : Option Int → Nat
  | none => n
  | some i => sIx n i
def cutD {α : Type} (xs : List α) (i j : Option Int) : List α := cut xs (loN xs.length i) (hiN xs.length j)
def cutT (s : Str) (i j : Option Int) : Str := ⟨(cutD s.cps.toList i j).toArray⟩
def sliceD (i j : Option Int) : D → Sto → R D
  | .loc n, st => (match st[n]? with
    | some (.lst ds) => alloc (.lst (cutD ds i j)) st
    | _ => none)
  | .tup ds, st => ok (.tup (cutD ds i j)) st
  | .str s, st => if s.length ≤ LINE then ok (.str (cutT s i j)) st else none
  | _, _ => none
/-- lo, hi: none where left out -/
def slop (x : D) (lo hi : Option D) (st : Sto) : R D := match bd lo, bd hi with
  | some i, some j => sliceD i j x st
  | _, _ => none

def biLen : D → Sto → R D
  | .str s, st => if s.length ≤ LINE then ok (.int s.length) st else none
  | .tup ds, st => ok (.int ds.length) st
  | .rol ds, st => ok (.int ds.length) st
  | .loc n, st => (match st[n]? with
    | some (.lst ds) => ok (.int ds.length) st
    | some (.dic kvs) => ok (.int kvs.length) st
    | _ => none)
  | _, _ => none
def biAbs : D → Sto → R D
  | .int i, st => ok (.int (if i < 0 then -i else i)) st
  | _, _ => none
def biInt : D → Sto → R D
  | .int i, st => ok (.int i) st
  | .bl b, st => ok (.int (if b then 1 else 0)) st
  | .str a, st => if a.length ≤ 640 then (match PySem.intText? a with
    | some n => ok (.int n) st
    | none => none) else none
  | _, _ => none
def biTuple : D → Sto → R D
  | .tup ds, st => ok (.tup ds) st
  | .rol ds, st => ok (.tup ds) st
  | .loc n, st => (match st[n]? with
    | some (.lst ds) => ok (.tup ds) st
    | _ => none)
  | _, _ => none
def biList : D → Sto → R D
  | .tup ds, st => alloc (.lst ds) st
  | .rol ds, st => alloc (.lst ds) st
  | .loc n, st => (match st[n]? with
    | some (.lst ds) => alloc (.lst ds) st
    | _ => none)
  | _, _ => none
def intsD : List D → Option (List Int)
  | [] => some []
  | .int i :: ds => (intsD ds).map (i :: ·)
  | _ => none
def biSum : D → Sto → R D
  | .loc n, st => (match st[n]? with
    | some (.lst ds) => (match intsD ds with
      | some is => ok (.int is.sum) st
      | none => none)
    | _ => none)
  | .tup ds, st => (match intsD ds with
    | some is => ok (.int is.sum) st
    | none => none)
  | _, _ => none
def biStr : D → Sto → R D
  | .int i, st => if i.natAbs.log2 < 1920 then ok (.str (PySem.Str.ofString (toString i))) st else none
  | .str s, st => ok (.str s) st
  | _, _ => none
def sortI (is : List Int) : List Int := is.mergeSort fun a b => decide (a ≤ b)
def biSorted (x : D) (st : Sto) : R D := match x with
  | .rol ds => (match intsD ds with
    | some is => alloc (.lst ((sortI is).map D.int)) st
    | none => none)
  | .loc n => (match st[n]? with
    | some (.lst ds) => (match intsD ds with
      | some is => alloc (.lst ((sortI is).map D.int)) st
      | none => none)
    | _ => none)
  | _ => none
def biInts (f : Int → Int → Int) : D → D → Sto → R D
  | .int i, .int j, st => ok (.int (f i j)) st
  | _, _, _ => none
def biop : Bi → List D → Sto → R D
  | .len, [x], st => biLen x st
  | .abs, [x], st => biAbs x st
  | .int, [x], st => biInt x st
  | .tuple, [x], st => biTuple x st
  | .list, [x], st => biList x st
  | .sum, [x], st => biSum x st
  | .str, [x], st => biStr x st
  | .sorted, [x], st => biSorted x st
  | .min, [x, y], st => biInts (fun i j => if j < i then j else i) x y st
  | .max, [x, y], st => biInts (fun i j => if j > i then j else i) x y st
  | .gcd, [x, y], st => biInts (fun i j => Int.gcd i j) x y st
  | _, _, _ => none

def lstOp (x : D) (st : Sto) (f : Nat → List D → R D) : R D := match x with
  | .loc n => (match st[n]? with
    | some (.lst ds) => f n ds
    | _ => none)
  | _ => none
def strsD : List D → Option (List Str)
  | [] => some []
  | .str s :: ds => (strsD ds).map (s :: ·)
  | _ => none
def joinL (a : Str) (ds : List D) (st : Sto) : R D := match strsD ds with
  | some ys => if (ys.map (·.length)).sum + ys.length * a.length ≤ 16777216 then ok (.str (PySem.Txt.join a ys)) st else none
  | none => none
def joinD (a : Str) (x : D) (st : Sto) : R D := match x with
  | .tup ds => joinL a ds st
  | .rol ds => joinL a ds st
  | .loc n => (match st[n]? with
    | some (.lst ds) => joinL a ds st
    | _ => none)
  | _ => none
def mtop : Mt → D → List D → Sto → R D
  | .append, o, [x], st => lstOp o st fun n ds => if ds.length < LINE then ok .non (st.set n (.lst (ds ++ [x]))) else none
  | .pop, o, [], st => lstOp o st fun n ds => match ds[ds.length - 1]? with
      | some d => ok d (st.set n (.lst ds.dropLast))
      | none => none
  | .reverse, o, [], st => lstOp o st fun n ds => ok .non (st.set n (.lst ds.reverse))
  | .popAt, o, [.int i], st => lstOp o st fun n ds => if -9223372036854775808 ≤ i ∧ i < 9223372036854775808 then (match ixN ds.length i with
    | some k => (match ds[k]? with
      | some d => ok d (st.set n (.lst (ds.eraseIdx k)))
      | none => none)
    | none => none) else none
  | .extend, o, [.loc m], st => lstOp o st fun n ds => (match st[m]? with
    | some (.lst es) => if ds.length + es.length ≤ LINE then ok .non (st.set n (.lst (ds ++ es))) else none
    | _ => none)
  | .startswith, .str a, [.str b], st => ok (.bl (PySem.Txt.startswith a b)) st
  | .endswith, .str a, [.str b], st => ok (.bl (PySem.Txt.endswith a b)) st
  | .lstrip, .str a, [.str b], st => if a.length ≤ LINE then ok (.str (PySem.Txt.lstripChars a b)) st else none
  | .index, .str a, [.str b], st => (match PySem.Builtin.Str.occurrences a b 0 a.length 1 with
    | i :: _ => ok (.int (i : Nat)) st
    | [] => none)
  | .find, .str a, [.str b], st => ok (.int (PySem.Txt.find a b)) st
  | .isdigit, .str a, [], st => ok (.bl (PySem.Txt.isdigit a)) st
  | .split, .str a, [.str b], st => if (b.length == 0) = false ∧ a.length + 2 ≤ LINE then alloc (.lst ((PySem.Txt.split a b).map D.str)) st else none
  | .join, .str a, [x], st => joinD a x st
  | _, _, _, _ => none

def rplop (y z : Str) : D → Sto → R D
  | .str x, st => if x.length + (x.length + 1) * z.length ≤ LINE ∧ (y == z) = false then ok (.str (PySem.Txt.replace x y z)) st else none
  | _, _ => none
def isLst : D → Sto → Bool
  | .loc n, st => (match st[n]? with
    | some (.lst _) => true
    | _ => false)
  | _, _ => false
def isStrD : D → Bool
  | .str _ => true
  | _ => false
/-- a method of texts -/
def mtStr : Mt → Bool
  | .append => false
  | .pop => false
  | .extend => false
  | .popAt => false
  | .reverse => false
  | _ => true
def mtRecv (m : Mt) (x : D) (st : Sto) : Bool := if mtStr m = true then isStrD x else isLst x st
def isTy : Ty → D → Sto → Option Bool
  | .int, .int _, _ => some true
  | .int, .bl _, _ => some true
  | .bool, .bl _, _ => some true
  | .str, .str _, _ => some true
  | .tuple, .tup _, _ => some true
  | .list, .loc n, st => (match st[n]? with
    | some (.lst _) => some true
    | _ => none)
  | .list, .rol _, _ => some true
  | _, .loc _, _ => none
  | _, _, _ => some false
def isop (t : Ty) (d : D) (st : Sto) : R D := match isTy t d st with
  | some b => ok (.bl b) st
  | none => none

/-! ### targets, walks -/
mutual
def asgG : G → D → Env → Option Env
  | .v i, d, σ => some (σ.set i (some d))
  | .tup gs, .tup ds, σ => asgGs gs ds σ
  | _, _, _ => none
def asgGs : List G → List D → Env → Option Env
  | [], [], σ => some σ
  | g :: gs, d :: ds, σ => match asgG g d σ with
    | some σ' => asgGs gs ds σ'
    | none => none
  | _, _, _ => none
end

def rangeL (lo : Int) (n : Nat) : List D := (List.range n).map fun i => .int (lo + (i : Nat))
abbrev Grd := List (Nat × O)
/-- the items of a walked thing; what must stay as it is meanwhile -/
def seqI : D → Sto → Option (List D × Grd)
  | .tup ds, _ => some (ds, [])
  | .rol ds, _ => some (ds, [])
  | .loc n, st => match st[n]? with
    | some (.lst ds) => some (ds, [(n, .lst ds)])
    | _ => none
  | _, _ => none
def RB : Int := 4611686018427387904
def itSeq : List D → Sto → Option (List D × Grd)
  | [.str s], _ => some (chars s, [])
  | [d], st => seqI d st
  | _, _ => none
def itRng1 : List D → Option (List D × Grd)
  | [.int j] => if -RB ≤ j ∧ j < RB then some (rangeL 0 j.toNat, []) else none
  | _ => none
def itRng2 : List D → Option (List D × Grd)
  | [.int i, .int j] => if (-RB ≤ i ∧ i < RB) ∧ (-RB ≤ j ∧ j < RB) then some (rangeL i (j - i).toNat, []) else none
  | _ => none
/-- how many turns range(i, j, c) has -/
def rng3N (i j c : Int) : Nat := (if c > 0 then (if i < j then (j - i - 1) / c + 1 else 0) else (if i > j then (i - j - 1) / (-c) + 1 else 0)).toNat
def range3L (i c : Int) (n : Nat) : List D := (List.range n).map fun k => .int (i + (k : Nat) * c)
def itRng3 : List D → Option (List D × Grd)
  | [.int i, .int j, .int c] => if c ≠ 0 ∧ (-RB ≤ i ∧ i < RB) ∧ (-RB ≤ j ∧ j < RB) ∧ (-1000000000 < c ∧ c < 1000000000) then some (range3L i c (rng3N i j c), []) else none
  | _ => none
def itEnum : List D → Sto → Option (List D × Grd)
  | [.str s], _ => some ((chars s).zipIdx.map fun p => .tup [.int (p.2 : Nat), p.1], [])
  | [d], st => (match seqI d st with
    | some (ds, g) => some (ds.zipIdx.map fun p => .tup [.int (p.2 : Nat), p.1], g)
    | none => none)
  | _, _ => none
/-- both tuples, or none -/
def sameK : D → D → Bool
  | .tup _, .tup _ => true
  | .tup _, _ => false
  | _, .tup _ => false
  | _, _ => true
def zipL (ds es : List D) : List D := (ds.zip es).map fun p => .tup [p.1, p.2]
def itZip : List D → Sto → Option (List D × Grd)
  | [a, b], st => if sameK a b = true then (match seqI a st, seqI b st with
    | some (ds, g), some (es, h) => some (zipL ds es, g ++ h)
    | _, _ => none) else none
  | _, _ => none
def itRev : List D → Sto → Option (List D × Grd)
  | [d], st => (match seqI d st with
    | some (ds, g) => some (ds.reverse, g)
    | none => none)
  | _, _ => none
def items : IK → List D → Sto → Option (List D × Grd)
  | .seq, ds, st => itSeq ds st
  | .rng1, ds, _ => itRng1 ds
  | .rng2, ds, _ => itRng2 ds
  | .rng3, ds, _ => itRng3 ds
  | .enum, ds, st => itEnum ds st
  | .zip, ds, st => itZip ds st
  | .rev, ds, st => itRev ds st
def held (g : Grd) (st : Sto) : Prop := ∀ p ∈ g, st[p.1]? = some p.2

def wipe (σ : Env) : List Nat → Env
  | [] => σ
  | v :: vs => (wipe σ vs).set v none

open Classical in
/-- a comprehension's loop: f tells the item's value, or none where it is left out -/
noncomputable def compL (g : Grd) (tg : G) (σ : Env) (f : Env → List D → Sto → R (List D)) : List D → List D → Sto → R (List D)
  | [], acc, st => if held g st then ok acc st else none
  | d :: ds, acc, st => if held g st then (match asgG tg d σ with
    | some σ' => bnd (noX (f σ' acc st)) fun acc' st' => compL g tg σ f ds acc' st'
    | none => none) else none

open Classical in
noncomputable def forL (g : Grd) (tg : G) (b : Env → Sto → R Fl) : List D → Env → Sto → R Fl
  | [], σ, st => if held g st then ok (.nx σ) st else none
  | d :: ds, σ, st => if held g st then (match asgG tg d σ with
    | some σ' => bnd (b σ' st) fun f st' => match f with
      | .nx σ2 => forL g tg b ds σ2 st'
      | .ct σ2 => forL g tg b ds σ2 st'
      | .bk σ2 => ok (.nx σ2) st'
      | .rt d => ok (.rt d) st'
    | none => none) else none

/-- one turn of a while: on, or the end -/
def whlS (c : Env → Sto → R D) (b : Env → Sto → R Fl) (σ : Env) (st : Sto) : Option (Sum (Env × Sto) (Except Exn Fl × Sto)) :=
  match c σ st with
  | some (.ok (.bl true), st1) => (match b σ st1 with
    | some (.ok (.nx σ2), st2) => some (.inl (σ2, st2))
    | some (.ok (.ct σ2), st2) => some (.inl (σ2, st2))
    | some (.ok (.bk σ2), st2) => some (.inr (.ok (.nx σ2), st2))
    | some (.ok (.rt d), st2) => some (.inr (.ok (.rt d), st2))
    | some (.error e, st2) => some (.inr (.error e, st2))
    | none => none)
  | some (.ok (.bl false), st1) => some (.inr (.ok (.nx σ), st1))
  | some (.error e, st1) => some (.inr (.error e, st1))
  | _ => none
def whl (c : Env → Sto → R D) (b : Env → Sto → R Fl) (σ : Env) (st : Sto) : Option (Except Exn Fl × Sto) := do
  match ← whlS c b σ st with
  | .inl q => whl c b q.1 q.2
  | .inr r => some r
partial_fixpoint

/-- in its place, or at the end -/
def dput (kvs : List (Sum Int Str × D)) (k : Sum Int Str) (d : D) : List (Sum Int Str × D) :=
  if (kvs.any fun kv => decide (kv.1 = k)) = true then kvs.map (fun kv => if kv.1 = k then (kv.1, d) else kv) else kvs ++ [(k, d)]
def setK (n : Nat) (kvs : List (Sum Int Str × D)) (k : Sum Int Str) (d : D) (st : Sto) : Option Sto := if kvs.length < LINE then some (st.set n (.dic (dput kvs k d))) else none
def setIxop : D → D → D → Sto → Option Sto
  | .loc n, .int i, d, st => match st[n]? with
    | some (.lst ds) => (match ixN ds.length i with
      | some j => some (st.set n (.lst (ds.set j d)))
      | none => none)
    | some (.dic kvs) => setK n kvs (.inl i) d st
    | _ => none
  | .loc n, .str s, d, st => (match st[n]? with
    | some (.dic kvs) => setK n kvs (.inr s) d st
    | _ => none)
  | _, _, _, _ => none

/-! ### instances -/
def insOp {α : Type} (x : D) (st : Sto) (f : Nat → Str → List (Str × D) → R α) : R α := match x with
  | .loc n => (match st[n]? with
    | some (.ins c fs) => f n c fs
    | _ => none)
  | _ => none
def fldop (f : Str) (x : D) (st : Sto) : R D := insOp x st fun _ _ fs => match fs.lookup f with
  | some d => ok d st
  | none => none
def putD (f : Str) (v : D) : List (Str × D) → List (Str × D)
  | [] => [(f, v)]
  | (g, x) :: r => if g = f then (g, v) :: r else (g, x) :: putD f v r
def setFldop (p : Str → Bool) (f : Str) (x d : D) (st : Sto) : Option Sto := match x with
  | .loc n => (match st[n]? with
    | some (.ins c fs) => if p c = true ∧ fs.length < 100 then some (st.set n (.ins c (putD f d fs))) else none
    | _ => none)
  | _ => none
/-- the key of a method -/
def mkey (c m : Str) : Str := c ++ "." ++ m

/-! ### what an except suite returns -/
mutual
def hx (e : Exn) : HX → Option D
  | .non => some .non
  | .bl b => some (.bl b)
  | .int i => some (.int i)
  | .str s => some (.str s)
  | .fld f => e.fs.lookup f
  | .isx cs => some (.bl (cs.contains e.cls))
  | .ite c a b => (match hx e c with
    | some (.bl true) => hx e a
    | some (.bl false) => hx e b
    | _ => none)
  | .and a b => (match hx e a with
    | some (.bl true) => hx e b
    | some (.bl false) => some (.bl false)
    | _ => none)
  | .not a => (match hx e a with
    | some (.bl b) => some (.bl (!b))
    | _ => none)
  | .tup es => (hxs e es).map .tup
  | .sub a b => (match hx e a, hx e b with
    | some (.int i), some (.int j) => some (.int (i - j))
    | _, _ => none)
def hxs (e : Exn) : List HX → Option (List D)
  | [] => some []
  | h :: hs => (match hx e h, hxs e hs with
    | some d, some ds => some (d :: ds)
    | _, _ => none)
end
/-- the first clause that takes e -/
def hxFind (e : Exn) : List (List Str × HX) → Option HX
  | [] => none
  | (cs, h) :: hs => if cs.contains e.cls = true then some h else hxFind e hs

/-! ### a call: what the callee made and no one sees is forgotten -/
open Classical in
noncomputable def gc (st : Sto) (d : D) (st' : Sto) : Sto :=
  if d.blw st.length = true ∧ st.length ≤ st'.length ∧ ∀ i, i < st.length → st'[i]? = st[i]? ∨ ∃ o, st'[i]? = some o ∧ o.blw st.length = true then st'.take st.length else st'
/-! ### generator expressions: the items leave no trace -/
open Classical in
noncomputable def quiet {α : Type} (r : R α) (w : α → D) (st : Sto) : Option α := match r with
  | some (.ok a, st') => if gc st (w a) st' = st then some a else none
  | _ => none
noncomputable def genL (tg : G) (σ : Env) (fe : Env → Sto → R D) (st : Sto) : List D → Option (List D)
  | [] => some []
  | d :: ds => match asgG tg d σ with
    | some σ' => (match quiet (fe σ' st) id st, genL tg σ fe st ds with
      | some v, some vs => some (v :: vs)
      | _, _ => none)
    | none => none
def blsD : List D → Option (List Bool)
  | [] => some []
  | .bl b :: ds => (blsD ds).map (b :: ·)
  | _ => none
def agop : Ag → List D → Sto → R D
  | .sum, ds, st => (match intsD ds with
    | some is => ok (.int is.sum) st
    | none => none)
  | .all, ds, st => (match blsD ds with
    | some bs => ok (.bl (bs.all id)) st
    | none => none)
  | .any, ds, st => (match blsD ds with
    | some bs => ok (.bl (bs.any id)) st
    | none => none)

/-! ### evaluation: C is what a def does -/
abbrev CalT := Str → List D → Sto → R D
/-- the arguments in the parameters' order; no pm: as they stand -/
def permD (pm : List Nat) (ds : List D) : List D := match pm with
  | [] => ds
  | pm => pm.map fun i => ds.getD i .non

mutual
noncomputable def ev (C : CalT) : T → Env → Sto → R D
  | .v i, σ, st => (match σ[i]? with
    | some (some d) => ok d st
    | _ => none)
  | .int i, _, st => ok (.int i) st
  | .bl b, _, st => ok (.bl b) st
  | .non, _, st => ok .non st
  | .str s, _, st => ok (.str s) st
  | .bin op a b, σ, st => bnd (ev C a σ st) fun x st => bnd (ev C b σ st) fun y st => binop op x y st
  | .neg a, σ, st => bnd (ev C a σ st) fun x st => neg x st
  | .cmp op a b, σ, st => bnd (ev C a σ st) fun x st => bnd (ev C b σ st) fun y st => cmpop op x y st
  | .chain p q a b c, σ, st => bnd (ev C a σ st) fun x st => bnd (ev C b σ st) fun y st => bnd (cmpop p x y st) fun z st => match z with
    | .bl true => bnd (ev C c σ st) fun w st => cmpop q y w st
    | .bl false => ok (.bl false) st
    | _ => none
  | .and a b, σ, st => bnd (ev C a σ st) fun x st => match x with
    | .bl true => ev C b σ st
    | .bl false => ok (.bl false) st
    | _ => none
  | .or a b, σ, st => bnd (ev C a σ st) fun x st => match x with
    | .bl true => ok (.bl true) st
    | .bl false => ev C b σ st
    | _ => none
  | .not a, σ, st => bnd (ev C a σ st) fun x st => match x with
    | .bl b => ok (.bl (!b)) st
    | _ => none
  | .tru a, σ, st => bnd (ev C a σ st) fun x st => tru x st
  | .ife c a b, σ, st => bnd (ev C c σ st) fun x st => match x with
    | .bl true => ev C a σ st
    | .bl false => ev C b σ st
    | _ => none
  | .tup es, σ, st => bnd (evs C es σ st) fun ds st => ok (.tup ds) st
  | .lst es, σ, st => bnd (evs C es σ st) fun ds st => alloc (.lst ds) st
  | .dnew, _, st => alloc (.dic []) st
  | .ix a b, σ, st => bnd (ev C a σ st) fun x st => bnd (ev C b σ st) fun y st => ixop x y st
  | .slA a lo, σ, st => bnd (ev C a σ st) fun x st => bnd (ev C lo σ st) fun y st => slop x (some y) none st
  | .slB a hi, σ, st => bnd (ev C a σ st) fun x st => bnd (ev C hi σ st) fun y st => slop x none (some y) st
  | .slC a lo hi, σ, st => bnd (ev C a σ st) fun x st => bnd (ev C lo σ st) fun y st => bnd (noX (ev C hi σ st)) fun z st => slop x (some y) (some z) st
  | .call f es pm, σ, st => bnd (evs C es σ st) fun ds st => C f (permD pm ds) st
  | .bi p es, σ, st => bnd (evs C es σ st) fun ds st => biop p ds st
  | .mt m o es, σ, st => bnd (ev C o σ st) fun x st => if mtRecv m x st = true then bnd (evs C es σ st) fun ds st => mtop m x ds st else none
  | .isi a t, σ, st => bnd (ev C a σ st) fun x st => isop t x st
  | .lit d, _, st => ok d st
  | .fld a f, σ, st => bnd (ev C a σ st) fun x st => fldop f x st
  | .meth o m es, σ, st => bnd (ev C o σ st) fun x st => insOp x st fun _ c fs => if fs.lookup m = none then bnd (noX (evs C es σ st)) fun ds st => C (mkey c m) (x :: ds) st else none
  | .make c es, σ, st => bnd (evs C es σ st) fun ds st => bnd (C (mkey c "__init__") (.loc st.length :: ds) (st ++ [.ins c []])) fun d st' => if isNon d = true then ok (.loc st.length) st' else none
  | .rpl o y z, σ, st => bnd (ev C o σ st) fun x st => rplop y z x st
  | .lrg k es, σ, st => bnd (evs C es σ st) fun ds st => match items k ds st with
    | some (is, _) => if is.length ≤ LINE then alloc (.lst is) st else none
    | none => none
  | .agg p elt tg k es own, σ, st => bnd (evs C es σ st) fun ds st => match items k ds st with
    | some (is, _) => (match genL tg (wipe σ own) (ev C elt) st is with
      | some vs => agop p vs st
      | none => none)
    | none => none
  | .comp elt tg k es cs own, σ, st => bnd (evs C es σ st) fun ds st => match items k ds st with
    | some (is, g) => bnd (compL g tg (wipe σ own) (fun σ acc st => bnd (evc C cs σ st) fun b st => if b = true then bnd (ev C elt σ st) fun d st => if acc.length < LINE then ok (acc ++ [d]) st else none else ok acc st) is [] st) fun acc st => alloc (.lst acc) st
    | none => none
  | .comp2 elt tg k es cs tg1 k1 es1 cs1 own own1, σ, st => bnd (evs C es σ st) fun ds st => match items k ds st with
    | some (is, g) => bnd (compL g tg (wipe σ own) (fun σ acc st => bnd (evc C cs σ st) fun b st => if b = true then bnd (evs C es1 σ st) fun ds1 st => (match items k1 ds1 st with
        | some (is1, g1) => compL g1 tg1 (wipe σ own1) (fun σ acc st => bnd (evc C cs1 σ st) fun b st => if b = true then bnd (ev C elt σ st) fun d st => if acc.length < LINE then ok (acc ++ [d]) st else none else ok acc st) is1 acc st
        | none => none) else ok acc st) is [] st) fun acc st => alloc (.lst acc) st
    | none => none
noncomputable def evs (C : CalT) : List T → Env → Sto → R (List D)
  | [], _, st => ok [] st
  | e :: es, σ, st => bnd (ev C e σ st) fun d st => bnd (evs C es σ st) fun ds st => ok (d :: ds) st
/-- a comprehension's tests -/
noncomputable def evc (C : CalT) : List T → Env → Sto → R Bool
  | [], _, st => ok true st
  | e :: es, σ, st => bnd (ev C e σ st) fun d st => match d with
    | .bl true => evc C es σ st
    | .bl false => ok false st
    | _ => none
end

def setAll : List Nat → List D → Env → Option Env
  | [], [], σ => some σ
  | i :: is, d :: ds, σ => setAll is ds (σ.set i (some d))
  | _, _, _ => none

/-- the end of a try: r is what its body did -/
def caught (ret : Bool) (hs : List (List Str × HX)) (σ : Env) (r : R D) : R Fl := match r with
  | some (.ok d, st') => if ret = true then ok (.rt d) st' else ok (.nx σ) st'
  | some (.error e, st') => (match hxFind e hs with
    | some h => (match hx e h with
      | some d => ok (.rt d) st'
      | none => none)
    | none => some (.error e, st'))
  | none => none

mutual
noncomputable def ex (C : CalT) : S → Env → Sto → R Fl
  | .expr t, σ, st => bnd (ev C t σ st) fun _ st => ok (.nx σ) st
  | .ret t, σ, st => bnd (ev C t σ st) fun d st => ok (.rt d) st
  | .retN, _, st => ok (.rt .non) st
  | .pass, σ, st => ok (.nx σ) st
  | .brk, σ, st => ok (.bk σ) st
  | .cnt, σ, st => ok (.ct σ) st
  | .asg g t, σ, st => bnd (ev C t σ st) fun d st => match asgG g d σ with
    | some σ' => ok (.nx σ') st
    | none => none
  | .aug i op t, σ, st => (match σ[i]? with
    | some (some x) => bnd (ev C t σ st) fun y st => bnd (augop op x y st) fun z st => ok (.nx (σ.set i (some z))) st
    | _ => none)
  | .par is ts, σ, st => bnd (evs C ts σ st) fun ds st => match setAll is ds σ with
    | some σ' => ok (.nx σ') st
    | none => none
  | .setIx o i t, σ, st => bnd (ev C t σ st) fun d st => bnd (ev C o σ st) fun x st => bnd (ev C i σ st) fun k st => match setIxop x k d st with
    | some st' => ok (.nx σ) st'
    | none => none
  | .augIx o i op t, σ, st => bnd (ev C o σ st) fun x st => bnd (ev C i σ st) fun k st => if isLst x st = true then bnd (ixop x k st) fun y st => bnd (ev C t σ st) fun d st => bnd (augop op y d st) fun z st => match setIxop x k z st with
    | some st' => ok (.nx σ) st'
    | none => none else none
  | .setFld o f t, σ, st => bnd (ev C t σ st) fun d st => bnd (ev C o σ st) fun x st => match setFldop (fun _ => true) f x d st with
    | some st' => ok (.nx σ) st'
    | none => none
  | .augFld o f op t, σ, st => bnd (ev C o σ st) fun x st => insOp x st fun _ c fs => match fs.lookup f with
    | some y => bnd (ev C t σ st) fun d st => bnd (augop op y d st) fun z st => (match setFldop (fun c' => decide (c' = c)) f x z st with
      | some st' => ok (.nx σ) st'
      | none => none)
    | none => none
  | .rse c fs es, σ, st => bnd (evs C es σ st) fun ds st => some (.error ⟨c, fs.zip ds⟩, st)
  | .try_ ret mx t hs, σ, st => if mx ≤ σ.length then caught ret hs σ (ev C t σ st) else none
  | .ife c a b, σ, st => bnd (ev C c σ st) fun x st => match x with
    | .bl true => exs C a σ st
    | .bl false => exs C b σ st
    | _ => none
  | .whl c b, σ, st => whl (ev C c) (exs C b) σ st
  | .for_ tg k es b, σ, st => bnd (evs C es σ st) fun ds st => match items k ds st with
    | some (is, g) => forL g tg (exs C b) is σ st
    | none => none
noncomputable def exs (C : CalT) : List S → Env → Sto → R Fl
  | [], σ, st => ok (.nx σ) st
  | s :: ss, σ, st => bnd (ex C s σ st) fun f st => match f with
    | .nx σ' => exs C ss σ' st
    | f => ok f st
end

noncomputable def fin (st : Sto) : R Fl → R D
  | some (.ok (.rt d), st') => ok d (gc st d st')
  | some (.ok (.nx _), st') => ok .non (gc st .non st')
  | some (.error e, st') => some (.error e, gc st (.tup (e.fs.map (·.2))) st')
  | _ => none
noncomputable def call (P : Str → Option FD) : Nat → CalT
  | 0 => fun _ _ _ => none
  | n + 1 => fun f ds st => match P f with
    | some fd => if ds.length = fd.np then fin st (exs (call P n) fd.body (ds.map some ++ List.replicate (fd.nv - ds.length) none) st) else none
    | none => none
end MP

set_option Elab.async false
set_option linter.all false
set_option maxRecDepth 100000
set_option maxHeartbeats 2000000
namespace MP
open PySem PySem.Spec PyProof.Rows L2
variable [Gb]

/-! ### data and values -/
/-- a list that is only read -/
def RoL (K : PySem.W.Frag) (H : Hp) (a : Addr) (xs : List V) : Prop :=
  (∃ o, H a = some (.frz o (.lst xs))) ∨
    ∃ (o : Obj) (its : Array Value) (n : Nat), K.lookup a = some o ∧ o.cls = .type "list" ∧ o.dict = none ∧ o.data = .seq its n ∧ its.size ≤ sizeLine ∧ Vals xs its.toList
mutual
def RD (K : PySem.W.Frag) (H : Hp) (μ : List Addr) : D → V → Prop
  | .non, v => v = .non
  | .bl b, v => v = .bl b
  | .int i, v => v = .int i
  | .str s, v => v = .str s
  | .tup ds, v => ∃ a vs, v = .ref a ∧ SqT K H a vs ∧ RDs K H μ ds vs
  | .loc n, v => ∃ a, v = .ref a ∧ μ[n]? = some a
  | .rol ds, v => ∃ a vs, v = .ref a ∧ RoL K H a vs ∧ RDs K H μ ds vs
def RDs (K : PySem.W.Frag) (H : Hp) (μ : List Addr) : List D → List V → Prop
  | [], vs => vs = []
  | d :: ds, vs => ∃ v r, vs = v :: r ∧ RD K H μ d v ∧ RDs K H μ ds r
end
/-- what never changes is kept -/
def Mono (H H' : Hp) : Prop := ∀ a, (∀ xs, H a = some (.tup xs) → H' a = some (.tup xs)) ∧ (∀ o u, H a = some (.frz o u) → H' a = some (.frz o u))
theorem Mono.refl (H : Hp) : Mono H H := fun _ => ⟨fun _ h => h, fun _ _ h => h⟩
theorem Mono.trans {H H1 H2 : Hp} (a : Mono H H1) (b : Mono H1 H2) : Mono H H2 := fun c => ⟨fun xs h => (b c).1 xs ((a c).1 xs h), fun o u h => (b c).2 o u ((a c).2 o u h)⟩
theorem Mono.new {H : Hp} {p : Addr} {o : HO} (h : H p = none) : Mono H (upd H p o) := fun a => by
  constructor
  · intro xs e
    rw [upd_ne (ne_of_none e h)]; exact e
  · intro u x e
    rw [upd_ne (ne_of_none e h)]; exact e
theorem Mono.mut {H : Hp} {p : Addr} {o u : HO} (h : H p = some u) (h1 : ∀ xs, u ≠ .tup xs) (h2 : ∀ o x, u ≠ .frz o x) : Mono H (upd H p o) := fun a => by
  constructor
  · intro xs e
    rw [upd_ne (ne_of e h fun z => h1 xs z.symm)]; exact e
  · intro u x e
    rw [upd_ne (ne_of e h fun z => h2 _ _ z.symm)]; exact e
theorem Mono.sqT {K : PySem.W.Frag} {H H' : Hp} (m : Mono H H') {a : Addr} {xs : List V} (h : SqT K H a xs) : SqT K H' a xs := by
  rcases h with (h | ⟨o, h⟩) | h
  · exact .inl (.inl ((m a).1 xs h))
  · exact .inl (.inr ⟨o, (m a).2 o _ h⟩)
  · exact .inr h
theorem RoL.sq {K : PySem.W.Frag} {H : Hp} {a : Addr} {xs : List V} (h : RoL K H a xs) : SqL K H a xs := by
  rcases h with ⟨o, h⟩ | h
  · exact .inl (.inr ⟨o, h⟩)
  · exact .inr h
theorem Mono.ro {K : PySem.W.Frag} {H H' : Hp} (m : Mono H H') {a : Addr} {xs : List V} (h : RoL K H a xs) : RoL K H' a xs := by
  rcases h with ⟨o, h⟩ | h
  · exact .inl ⟨o, (m a).2 o _ h⟩
  · exact .inr h
abbrev Pre (μ μ' : List Addr) : Prop := μ <+: μ'
theorem pre_get {μ μ' : List Addr} (p : Pre μ μ') {n : Nat} {a : Addr} (h : μ[n]? = some a) : μ'[n]? = some a := by
  obtain ⟨t, rfl⟩ := p
  rw [List.getElem?_append_left (List.getElem?_eq_some_iff.mp h).1]; exact h
theorem pre_get' {μ μ' : List Addr} (p : Pre μ μ') {n : Nat} (hn : n < μ.length) : μ'[n]? = μ[n]? := by
  obtain ⟨t, rfl⟩ := p
  rw [List.getElem?_append_left hn]
section
variable {K : PySem.W.Frag} {H H' : Hp} {μ μ' : List Addr}
mutual
theorem RD.mono (m : Mono H H') (p : Pre μ μ') : ∀ (d : D) {v : V}, RD K H μ d v → RD K H' μ' d v
  | .non, _, h => h
  | .bl _, _, h => h
  | .int _, _, h => h
  | .str _, _, h => h
  | .tup ds, _, ⟨a, vs, e, h1, h2⟩ => ⟨a, vs, e, m.sqT h1, RDs.mono m p ds h2⟩
  | .loc n, _, ⟨a, e, h⟩ => ⟨a, e, pre_get p h⟩
  | .rol ds, _, ⟨a, vs, e, h1, h2⟩ => ⟨a, vs, e, m.ro h1, RDs.mono m p ds h2⟩
theorem RDs.mono (m : Mono H H') (p : Pre μ μ') : ∀ (ds : List D) {vs : List V}, RDs K H μ ds vs → RDs K H' μ' ds vs
  | [], _, h => h
  | d :: ds, _, ⟨v, r, e, h1, h2⟩ => ⟨v, r, e, RD.mono m p d h1, RDs.mono m p ds h2⟩
end
mutual
theorem RD.below : ∀ (d : D) {v : V}, RD K H μ d v → d.blw μ.length = true
  | .non, _, _ => rfl
  | .bl _, _, _ => rfl
  | .int _, _, _ => rfl
  | .str _, _, _ => rfl
  | .tup ds, _, ⟨a, vs, e, h1, h2⟩ => RDs.below ds h2
  | .loc n, _, ⟨a, e, h⟩ => decide_eq_true (List.getElem?_eq_some_iff.mp h).1
  | .rol ds, _, ⟨a, vs, e, h1, h2⟩ => RDs.below ds h2
theorem RDs.below : ∀ (ds : List D) {vs : List V}, RDs K H μ ds vs → belows μ.length ds = true
  | [], _, h => rfl
  | d :: ds, _, ⟨v, r, e, h1, h2⟩ => by
    show (d.blw μ.length && belows μ.length ds) = true
    rw [RD.below d h1, RDs.below ds h2]; rfl
end
mutual
theorem RD.shrink (p : Pre μ μ') : ∀ (d : D) {v : V}, d.blw μ.length = true → RD K H μ' d v → RD K H μ d v
  | .non, _, _, h => h
  | .bl _, _, _, h => h
  | .int _, _, _, h => h
  | .str _, _, _, h => h
  | .tup ds, _, b, ⟨a, vs, e, h1, h2⟩ => ⟨a, vs, e, h1, RDs.shrink p ds b h2⟩
  | .loc n, _, b, ⟨a, e, h⟩ => ⟨a, e, by rw [← pre_get' p (of_decide_eq_true b)]; exact h⟩
  | .rol ds, _, b, ⟨a, vs, e, h1, h2⟩ => ⟨a, vs, e, h1, RDs.shrink p ds b h2⟩
theorem RDs.shrink (p : Pre μ μ') : ∀ (ds : List D) {vs : List V}, belows μ.length ds = true → RDs K H μ' ds vs → RDs K H μ ds vs
  | [], _, _, h => h
  | d :: ds, _, b, ⟨v, r, e, h1, h2⟩ => by
    obtain ⟨b1, b2⟩ := Bool.and_eq_true_iff.mp (show (d.blw μ.length && belows μ.length ds) = true from b)
    exact ⟨v, r, e, RD.shrink p d b1 h1, RDs.shrink p ds b2 h2⟩
end
theorem RDs.length : ∀ {ds : List D} {vs : List V}, RDs K H μ ds vs → vs.length = ds.length
  | [], vs, h => by
    have e : vs = [] := h
    rw [e]
    rfl
  | d :: ds, _, ⟨v, r, e, _, h2⟩ => by rw [e, List.length_cons, List.length_cons, RDs.length h2]
theorem RDs.get : ∀ {ds : List D} {vs : List V} {i : Nat} {d : D}, RDs K H μ ds vs → ds[i]? = some d → ∃ v, vs[i]? = some v ∧ RD K H μ d v
  | [], _, _, _, _, h => by simp at h
  | d :: ds, _, 0, _, ⟨v, r, e, h1, h2⟩, h => by
    subst e
    have e2 : d = _ := Option.some.inj h
    subst e2
    exact ⟨v, rfl, h1⟩
  | d :: ds, _, i + 1, _, ⟨v, r, e, h1, h2⟩, h => by
    subst e
    exact RDs.get (i := i) h2 h
theorem RDs.get' : ∀ {ds : List D} {vs : List V} {i : Nat} {v : V}, RDs K H μ ds vs → vs[i]? = some v → ∃ d, ds[i]? = some d ∧ RD K H μ d v := fun {ds vs i v} h e => by
  have hi : i < vs.length := (List.getElem?_eq_some_iff.mp e).1
  have hj : i < ds.length := by rw [← h.length]; exact hi
  obtain ⟨w, e2, r⟩ := h.get (List.getElem?_eq_getElem hj)
  rw [e] at e2; cases e2
  exact ⟨_, List.getElem?_eq_getElem hj, r⟩
theorem RDs.append : ∀ {ds es : List D} {vs ws : List V}, RDs K H μ ds vs → RDs K H μ es ws → RDs K H μ (ds ++ es) (vs ++ ws)
  | [], _, _, _, h, h2 => by rw [show _ = _ from h]; exact h2
  | d :: ds, _, _, _, ⟨v, r, e, h1, h2⟩, h3 => by subst e; exact ⟨v, _, rfl, h1, RDs.append h2 h3⟩
theorem RDs.set {d : D} {v : V} (q : RD K H μ d v) : ∀ {ds : List D} {vs : List V} (i : Nat), RDs K H μ ds vs → RDs K H μ (ds.set i d) (vs.set i v)
  | [], _, _, h => by rw [show _ = _ from h]; exact rfl
  | _ :: ds, _, 0, ⟨_, r, e, _, h2⟩ => by subst e; exact ⟨v, r, rfl, q, h2⟩
  | _ :: ds, _, i + 1, ⟨w, r, e, h1, h2⟩ => by subst e; exact ⟨w, _, rfl, h1, RDs.set q i h2⟩
theorem RDs.take : ∀ {ds : List D} {vs : List V} (i : Nat), RDs K H μ ds vs → RDs K H μ (ds.take i) (vs.take i)
  | _, _, 0, _ => rfl
  | [], _, _ + 1, h => by rw [show _ = _ from h]; exact rfl
  | _ :: ds, _, i + 1, ⟨w, r, e, h1, h2⟩ => by subst e; exact ⟨w, _, rfl, h1, RDs.take i h2⟩
theorem RDs.drop : ∀ {ds : List D} {vs : List V} (i : Nat), RDs K H μ ds vs → RDs K H μ (ds.drop i) (vs.drop i)
  | _, _, 0, h => h
  | [], _, _ + 1, h => by rw [show _ = _ from h]; exact rfl
  | _ :: ds, _, i + 1, ⟨w, r, e, h1, h2⟩ => by subst e; exact RDs.drop i h2
theorem RDs.dropLast {ds : List D} {vs : List V} (h : RDs K H μ ds vs) : RDs K H μ ds.dropLast vs.dropLast := by
  rw [List.dropLast_eq_take, List.dropLast_eq_take, h.length]; exact h.take _
theorem RDs.erase : ∀ {ds : List D} {vs : List V} (k : Nat), RDs K H μ ds vs → RDs K H μ (ds.eraseIdx k) (vs.eraseIdx k)
  | [], _, _, h => by rw [show _ = _ from h]; exact rfl
  | _ :: _, _, 0, ⟨w, r, e, h1, h2⟩ => by subst e; exact h2
  | _ :: _, _, k + 1, ⟨w, r, e, h1, h2⟩ => by subst e; exact ⟨w, _, rfl, h1, RDs.erase k h2⟩
theorem RDs.reverse : ∀ {ds : List D} {vs : List V}, RDs K H μ ds vs → RDs K H μ ds.reverse vs.reverse
  | [], _, h => by rw [show _ = _ from h]; exact rfl
  | _ :: ds, _, ⟨w, r, e, h1, h2⟩ => by
    subst e
    rw [List.reverse_cons, List.reverse_cons]
    exact RDs.append (RDs.reverse h2) ⟨w, [], rfl, h1, rfl⟩
theorem RDs.rep {ds : List D} {vs : List V} (h : RDs K H μ ds vs) : ∀ k : Nat, RDs K H μ (List.replicate k ds).flatten (List.replicate k vs).flatten
  | 0 => rfl
  | k + 1 => by
    rw [List.replicate_succ, List.replicate_succ, List.flatten_cons, List.flatten_cons]
    exact h.append (RDs.rep h k)
theorem RDs.nil : RDs K H μ [] [] := rfl
theorem RDs.one {d : D} {v : V} (h : RD K H μ d v) : RDs K H μ [d] [v] := ⟨v, [], rfl, h, rfl⟩
theorem RDs.cons {d : D} {v : V} {ds : List D} {vs : List V} (h : RD K H μ d v) (h2 : RDs K H μ ds vs) : RDs K H μ (d :: ds) (v :: vs) := ⟨v, vs, rfl, h, h2⟩

/-! ### fields -/
def RFs (K : PySem.W.Frag) (H : Hp) (μ : List Addr) : List (Str × D) → List (Str × V) → Prop
  | [], vs => vs = []
  | (f, d) :: fs, vs => ∃ v r, vs = (f, v) :: r ∧ RD K H μ d v ∧ RFs K H μ fs r
theorem RFs.mono (m : Mono H H') (p : Pre μ μ') : ∀ {fs : List (Str × D)} {vs : List (Str × V)}, RFs K H μ fs vs → RFs K H' μ' fs vs
  | [], _, h => h
  | (f, d) :: fs, _, ⟨v, r, e, h1, h2⟩ => ⟨v, r, e, h1.mono m p d, RFs.mono m p h2⟩
theorem RFs.below : ∀ {fs : List (Str × D)} {vs : List (Str × V)}, RFs K H μ fs vs → belows μ.length (fs.map (·.2)) = true
  | [], _, _ => rfl
  | (f, d) :: fs, _, ⟨v, r, e, h1, h2⟩ => by
    show (d.blw μ.length && belows μ.length (fs.map (·.2))) = true
    rw [RD.below d h1, RFs.below h2]; rfl
theorem RFs.shrink (p : Pre μ μ') : ∀ {fs : List (Str × D)} {vs : List (Str × V)}, belows μ.length (fs.map (·.2)) = true → RFs K H μ' fs vs → RFs K H μ fs vs
  | [], _, _, h => h
  | (f, d) :: fs, _, b, ⟨v, r, e, h1, h2⟩ => by
    obtain ⟨b1, b2⟩ := Bool.and_eq_true_iff.mp (show (d.blw μ.length && belows μ.length (fs.map (·.2))) = true from b)
    exact ⟨v, r, e, RD.shrink p d b1 h1, RFs.shrink p b2 h2⟩
theorem RFs.length : ∀ {fs : List (Str × D)} {vs : List (Str × V)}, RFs K H μ fs vs → vs.length = fs.length
  | [], vs, h => by rw [show vs = [] from h]; rfl
  | (f, d) :: fs, _, ⟨v, r, e, _, h2⟩ => by rw [e, List.length_cons, List.length_cons, RFs.length h2]
theorem RFs.get {f : Str} {d : D} : ∀ {fs : List (Str × D)} {vs : List (Str × V)}, RFs K H μ fs vs → fs.lookup f = some d → ∃ v, vs.lookup f = some v ∧ RD K H μ d v
  | [], _, _, h => by cases h
  | (g, e) :: fs, _, ⟨v, r, rfl, h1, h2⟩, h => by
    rw [List.lookup_cons] at h
    rw [List.lookup_cons]
    cases hb : f == g with
    | true =>
      rw [hb] at h
      have z : e = d := Option.some.inj h
      subst z
      exact ⟨v, rfl, h1⟩
    | false =>
      rw [hb] at h
      exact RFs.get h2 h
theorem RFs.none {f : Str} : ∀ {fs : List (Str × D)} {vs : List (Str × V)}, RFs K H μ fs vs → fs.lookup f = none → vs.lookup f = none
  | [], vs, h0, h => by rw [show vs = [] from h0]; rfl
  | (g, e) :: fs, _, ⟨v, r, rfl, h1, h2⟩, h => by
    rw [List.lookup_cons] at h
    rw [List.lookup_cons]
    cases hb : f == g with
    | true =>
      rw [hb] at h
      cases h
    | false =>
      rw [hb] at h
      exact RFs.none h2 h
theorem RFs.put {f : Str} {d : D} {v : V} (q : RD K H μ d v) : ∀ {fs : List (Str × D)} {vs : List (Str × V)}, RFs K H μ fs vs → RFs K H μ (putD f d fs) (putF f v vs)
  | [], vs, h => by rw [show vs = [] from h]; exact ⟨v, [], rfl, q, rfl⟩
  | (g, e) :: fs, _, ⟨w, r, rfl, h1, h2⟩ => by
    unfold putD putF
    by_cases z : g = f
    · rw [if_pos z, if_pos z]; exact ⟨v, r, rfl, q, h2⟩
    · rw [if_neg z, if_neg z]; exact ⟨w, _, rfl, h1, RFs.put q h2⟩
theorem mem_lookup_ {α : Type} {f : Str} {d : α} : ∀ {fs : List (Str × α)}, fs.lookup f = some d → ∃ p ∈ fs, p.1 = f
  | [], h => by cases h
  | (g, e) :: fs, h => by
    rw [List.lookup_cons] at h
    cases hb : f == g with
    | true => exact ⟨_, List.mem_cons_self, (beq_iff_eq.mp hb).symm⟩
    | false =>
      rw [hb] at h
      obtain ⟨p, hp, e⟩ := mem_lookup_ h
      exact ⟨p, List.mem_cons_of_mem _ hp, e⟩
theorem putD_keys {f : Str} {d : D} {P : Str → Prop} (h : P f) : ∀ {fs : List (Str × D)}, (∀ p ∈ fs, P p.1) → ∀ p ∈ putD f d fs, P p.1
  | [], _, p, hp => by
    rw [List.mem_singleton.mp hp]; exact h
  | (g, e) :: fs, q, p, hp => by
    unfold putD at hp
    by_cases z : g = f
    · rw [if_pos z] at hp
      rcases List.mem_cons.mp hp with rfl | hp
      · exact q (g, e) List.mem_cons_self
      · exact q p (List.mem_cons_of_mem _ hp)
    · rw [if_neg z] at hp
      rcases List.mem_cons.mp hp with rfl | hp
      · exact q (g, e) List.mem_cons_self
      · exact putD_keys h (fun p hp => q p (List.mem_cons_of_mem _ hp)) p hp

/-! ### the store -/
def RO (K : PySem.W.Frag) (H : Hp) (μ : List Addr) : O → Addr → Prop
  | .lst ds, a => ∃ vs, H a = some (.lst vs) ∧ RDs K H μ ds vs
  | .ins c fs, a => ∃ dx vs, H a = some (.ins (He.ga K c) dx vs) ∧ RFs K H μ fs vs ∧ Cls K (He.ga K c) ∧ (∀ p ∈ fs, NoAttr K (He.ga K c) p.1) ∧ c ∈ Gb.cls
  | .dic kvs, a => ∃ ws : List (Key × V), H a = some (.dK ws) ∧ kvs.map (·.1) = ws.map (·.1) ∧ RDs K H μ (kvs.map (·.2)) (ws.map (·.2))
/-- the tables of code objects stand -/
def TabsOk (H : Hp) : Prop := ∀ P ∈ Gb.ts, GxR.TabG H P
theorem TabsOk.new (t : TabsOk H) {p : Addr} {o : HO} (h : H p = none) : TabsOk (upd H p o) := fun P hP => by
  obtain ⟨ps, e, q⟩ := t P hP
  exact ⟨ps, by rw [upd_ne (ne_of_none e h)]; exact e, q⟩
theorem TabsOk.mut (t : TabsOk H) {p : Addr} {o u : HO} (h : H p = some u) (d : ∀ ps, u ≠ .tbl ps) : TabsOk (upd H p o) := fun P hP => by
  obtain ⟨ps, e, q⟩ := t P hP
  exact ⟨ps, by rw [upd_ne (ne_of e h fun z => d ps z.symm)]; exact e, q⟩
structure RSt (K : PySem.W.Frag) (H : Hp) (μ : List Addr) (st : Sto) : Prop where
  len : μ.length = st.length
  nd : μ.Nodup
  at_ : ∀ (n : Nat) (o : O) (a : Addr), st[n]? = some o → μ[n]? = some a → RO K H μ o a
  tab : TabsOk H
theorem nodup_ix {l : List Addr} (nd : l.Nodup) {i j : Nat} {a : Addr} (h1 : l[i]? = some a) (h2 : l[j]? = some a) : i = j := by
  have hi := (List.getElem?_eq_some_iff.mp h1).1
  exact (List.getElem?_inj hi nd).mp (h1.trans h2.symm)
/-- from one world to a later one: the store's old places stand, its new ones are of new objects; all that is not the store's is kept -/
structure Ext (μ : List Addr) (H : Hp) (μ' : List Addr) (H' : Hp) : Prop where
  pre : Pre μ μ'
  mono : Mono H H'
  new : ∀ a ∈ μ', a ∈ μ ∨ H a = none
  keep : ∀ b o, b ∉ μ → H b = some o → (∀ ps, o ≠ .tbl ps) → H' b = some o
  there : ∀ b o, b ∉ μ → H b = some o → H' b ≠ none
theorem Ext.refl (μ : List Addr) (H : Hp) : Ext μ H μ H := ⟨List.prefix_refl _, Mono.refl H, fun _ h => .inl h, fun _ _ _ h _ => h, fun _ _ _ h => by rw [h]; simp⟩
/-- all that is not of the store is kept -/
theorem Ext.of (pre : Pre μ μ') (mono : Mono H H') (new : ∀ a ∈ μ', a ∈ μ ∨ H a = none) (keep : ∀ b o, b ∉ μ → H b = some o → H' b = some o) : Ext μ H μ' H' :=
  ⟨pre, mono, new, fun b o hb e _ => keep b o hb e, fun b o hb e => by rw [keep b o hb e]; simp⟩
theorem Ext.trans {μ1 μ2 : List Addr} {H1 H2 : Hp} (a : Ext μ H μ1 H1) (b : Ext μ1 H1 μ2 H2) : Ext μ H μ2 H2 := by
  have out : ∀ x o, x ∉ μ → H x = some o → x ∉ μ1 := fun x o hx e z => by
    rcases a.new x z with h | h
    · exact hx h
    · rw [e] at h; cases h
  refine ⟨a.pre.trans b.pre, a.mono.trans b.mono, fun x hx => ?_, fun x o hx e n => b.keep x o (out x o hx e) (a.keep x o hx e n) n, fun x o hx e => ?_⟩
  · rcases b.new x hx with h | h
    · exact a.new x h
    · by_cases hm : x ∈ μ
      · exact .inl hm
      · cases e : H x with
        | none => exact .inr rfl
        | some o => exact absurd h (a.there x o hm e)
  · cases e1 : H1 x with
    | none => exact absurd e1 (a.there x o hx e)
    | some u => exact b.there x u (out x o hx e) e1
theorem RSt.get {st : Sto} (r : RSt K H μ st) {n : Nat} {o : O} (h : st[n]? = some o) : ∃ a, μ[n]? = some a ∧ RO K H μ o a := by
  have hn : n < μ.length := by rw [r.len]; exact (List.getElem?_eq_some_iff.mp h).1
  exact ⟨μ[n], List.getElem?_eq_getElem hn, r.at_ n o _ h (List.getElem?_eq_getElem hn)⟩
theorem RO.same {o : O} {a : Addr} (h : RO K H μ o a) (m : Mono H H') (p : Pre μ μ') (e : H a ≠ none → H' a = H a) : RO K H' μ' o a := by
  cases o with
  | lst ds => obtain ⟨vs, h1, h2⟩ := h; exact ⟨vs, by rw [e (by rw [h1]; simp)]; exact h1, h2.mono m p⟩
  | ins c fs => obtain ⟨dx, vs, h1, h2, h3⟩ := h; exact ⟨dx, vs, by rw [e (by rw [h1]; simp)]; exact h1, h2.mono m p, h3⟩
  | dic kvs => obtain ⟨ws, h1, h3, h2⟩ := h; exact ⟨ws, by rw [e (by rw [h1]; simp)]; exact h1, h3, h2.mono m p⟩
theorem RO.there {o : O} {a : Addr} (h : RO K H μ o a) : H a ≠ none := by
  cases o with
  | lst ds => obtain ⟨vs, h1, h2⟩ := h; rw [h1]; simp
  | ins c fs => obtain ⟨dx, vs, h1, _⟩ := h; rw [h1]; simp
  | dic kvs => obtain ⟨ws, h1, _⟩ := h; rw [h1]; simp
theorem RSt.there {st : Sto} (r : RSt K H μ st) {a : Addr} (h : a ∈ μ) : H a ≠ none := by
  obtain ⟨n, e⟩ := List.mem_iff_getElem?.mp h
  have hn : n < st.length := by rw [← r.len]; exact (List.getElem?_eq_some_iff.mp e).1
  exact (r.at_ n _ a (List.getElem?_eq_getElem hn) e).there
theorem RSt.out {st : Sto} (r : RSt K H μ st) {p : Addr} (h : H p = none) : p ∉ μ := fun z => r.there z h
/-- the heap grew by an object that is not of the store -/
theorem RSt.new {st : Sto} (r : RSt K H μ st) {p : Addr} {o : HO} (h : H p = none) : RSt K (upd H p o) μ st :=
  ⟨r.len, r.nd, fun n u a h1 h2 => (r.at_ n u a h1 h2).same (Mono.new h) (List.prefix_refl _) fun e => upd_ne fun z => e (by rw [z]; exact h), r.tab.new h⟩
theorem Ext.newO {p : Addr} {o : HO} (h : H p = none) : Ext μ H μ (upd H p o) := .of (List.prefix_refl _) (Mono.new h) (fun _ h => .inl h) fun b u _ e => by rw [upd_ne (ne_of_none e h)]; exact e
/-- a new object, in the store -/
theorem RSt.pushO {st : Sto} (r : RSt K H μ st) {p : Addr} {o : O} {u : HO} (h : H p = none) (q : RO K (upd H p u) (μ ++ [p]) o p) : RSt K (upd H p u) (μ ++ [p]) (st ++ [o]) := by
  refine ⟨by rw [List.length_append, List.length_append, r.len]; rfl, ?_, fun n o1 a h1 h2 => ?_, r.tab.new h⟩
  · rw [List.nodup_append]
    refine ⟨r.nd, List.nodup_cons.mpr ⟨by simp, List.nodup_nil⟩, fun a ha b hb => ?_⟩
    rw [List.mem_singleton] at hb
    subst hb
    exact fun e => r.out h (e ▸ ha)
  · by_cases hn : n < st.length
    · rw [List.getElem?_append_left hn] at h1
      rw [List.getElem?_append_left (by rw [r.len]; exact hn)] at h2
      exact (r.at_ n o1 a h1 h2).same (Mono.new h) (List.prefix_append _ _) fun e => upd_ne fun z => e (by rw [z]; exact h)
    · have e : n = st.length := by
        have := (List.getElem?_eq_some_iff.mp h1).1
        rw [List.length_append, List.length_singleton] at this
        omega
      subst e
      rw [List.getElem?_append_right (Nat.le_refl _), Nat.sub_self] at h1
      rw [← r.len, List.getElem?_append_right (Nat.le_refl _), Nat.sub_self] at h2
      cases h1
      cases h2
      exact q
theorem Ext.push {p : Addr} {u : HO} (h : H p = none) : Ext μ H (μ ++ [p]) (upd H p u) := .of (List.prefix_append _ _) (Mono.new h) (fun a ha => (List.mem_append.mp ha).elim .inl fun z => .inr (by rw [List.mem_singleton.mp z]; exact h)) fun b o _ e => by rw [upd_ne (ne_of_none e h)]; exact e
theorem RSt.push {st : Sto} (r : RSt K H μ st) {p : Addr} {ds : List D} {vs : List V} (h : H p = none) (q : RDs K H μ ds vs) : RSt K (upd H p (.lst vs)) (μ ++ [p]) (st ++ [.lst ds]) :=
  r.pushO h ⟨vs, upd_same, q.mono (Mono.new h) (List.prefix_append _ _)⟩
/-- an object of the store is changed -/
theorem RSt.setO {st : Sto} (r : RSt K H μ st) {n : Nat} {a : Addr} {u u' : HO} {o : O} (ha : μ[n]? = some a) (h : H a = some u) (h1 : ∀ xs, u ≠ .tup xs) (h2 : ∀ o x, u ≠ .frz o x) (h3 : ∀ ps, u ≠ .tbl ps) (q : RO K (upd H a u') μ o a) : RSt K (upd H a u') μ (st.set n o) := by
  have m : Mono H (upd H a u') := Mono.mut h h1 h2
  have hl : n < st.length := by rw [← r.len]; exact (List.getElem?_eq_some_iff.mp ha).1
  refine ⟨by rw [List.length_set]; exact r.len, r.nd, fun i o1 b e1 e2 => ?_, r.tab.mut h h3⟩
  by_cases e : n = i
  · subst e
    rw [List.getElem?_set_self hl] at e1
    cases e1
    rw [ha] at e2; cases e2
    exact q
  · rw [List.getElem?_set_ne e] at e1
    exact (r.at_ i o1 b e1 e2).same m (List.prefix_refl _) fun _ => upd_ne fun z => by subst z; exact e (nodup_ix r.nd ha e2)
theorem RSt.setl {st : Sto} (r : RSt K H μ st) {n : Nat} {a : Addr} {xs vs : List V} {ds : List D} (ha : μ[n]? = some a) (h : H a = some (.lst xs)) (q : RDs K H μ ds vs) : RSt K (upd H a (.lst vs)) μ (st.set n (.lst ds)) :=
  r.setO ha h (fun _ z => by cases z) (fun _ _ z => by cases z) (fun _ z => by cases z) ⟨vs, upd_same, q.mono (Mono.mut h (fun _ z => by cases z) (fun _ _ z => by cases z)) (List.prefix_refl _)⟩
theorem mono_setl {a : Addr} {xs vs : List V} (h : H a = some (.lst xs)) : Mono H (upd H a (.lst vs)) := Mono.mut h (fun _ z => by cases z) (fun _ _ z => by cases z)
theorem Ext.setO {n : Nat} {a : Addr} {u u' : HO} (ha : μ[n]? = some a) (h : H a = some u) (h1 : ∀ xs, u ≠ .tup xs) (h2 : ∀ o x, u ≠ .frz o x) : Ext μ H μ (upd H a u') :=
  .of (List.prefix_refl _) (Mono.mut h h1 h2) (fun _ h => .inl h) fun b o hb e => by rw [upd_ne fun z => hb (by rw [z]; exact List.mem_of_getElem? ha)]; exact e
theorem Ext.setl {n : Nat} {a : Addr} {xs vs : List V} (ha : μ[n]? = some a) (h : H a = some (.lst xs)) : Ext μ H μ (upd H a (.lst vs)) := Ext.setO ha h (fun _ z => by cases z) (fun _ _ z => by cases z)
end

/-! ### slots -/
structure REnv (K : PySem.W.Frag) (H : Hp) (μ : List Addr) (env : Env) (σ : L2.St) : Prop where
  len : env.length = σ.length
  at_ : ∀ (i : Nat) (d : D), env[i]? = some (some d) → ∃ v : V, σ[i]? = some (some v) ∧ RD K H μ d v
section
variable {K : PySem.W.Frag} {H H' : Hp} {μ μ' : List Addr} {env : Env} {σ : L2.St}
theorem REnv.mono' (r : REnv K H μ env σ) (p : Pre μ μ') (m : Mono H H') : REnv K H' μ' env σ := ⟨r.len, fun i d h => let ⟨v, e, q⟩ := r.at_ i d h; ⟨v, e, q.mono m p d⟩⟩
theorem REnv.mono (r : REnv K H μ env σ) (x : Ext μ H μ' H') : REnv K H' μ' env σ := ⟨r.len, fun i d h => let ⟨v, e, q⟩ := r.at_ i d h; ⟨v, e, q.mono x.mono x.pre d⟩⟩
theorem REnv.set (r : REnv K H μ env σ) (i : Nat) {d : D} {v : V} (q : RD K H μ d v) : REnv K H μ (env.set i (some d)) (σ.set i (some v)) := by
  refine ⟨by rw [List.length_set, List.length_set]; exact r.len, fun j e h => ?_⟩
  by_cases z : i = j
  · subst z
    have hi : i < env.length := by
      have := (List.getElem?_eq_some_iff.mp h).1
      rw [List.length_set] at this; exact this
    rw [List.getElem?_set_self hi] at h
    cases h
    exact ⟨v, by rw [List.getElem?_set_self (by rw [← r.len]; exact hi)], q⟩
  · rw [List.getElem?_set_ne z] at h ⊢
    exact r.at_ j e h
theorem REnv.wipe1 (r : REnv K H μ env σ) (i : Nat) : REnv K H μ (env.set i none) (σ.set i none) := by
  refine ⟨by rw [List.length_set, List.length_set]; exact r.len, fun j e h => ?_⟩
  by_cases z : i = j
  · subst z
    have hi : i < env.length := by
      have := (List.getElem?_eq_some_iff.mp h).1
      rw [List.length_set] at this; exact this
    rw [List.getElem?_set_self hi] at h
    cases h
  · rw [List.getElem?_set_ne z] at h ⊢
    exact r.at_ j e h
theorem REnv.wipe (r : REnv K H μ env σ) : ∀ own : List Nat, REnv K H μ (MP.wipe env own) (L2.wipe σ own)
  | [] => r
  | v :: vs => (REnv.wipe r vs).wipe1 v
end
end MP

set_option Elab.async false
set_option linter.all false
set_option maxRecDepth 100000
set_option maxHeartbeats 2000000
namespace MP
open PySem PySem.Spec PyProof.Rows L2
variable [Gb]

/-- how an exception's fields lie -/
def RXd (K : PySem.W.Frag) (H : Hp) (μ : List Addr) (x : Exn) (od : Option Addr) : Prop := match od with
  | none => x.fs = []
  | some d => ∃ vs, H d = some (.xd vs) ∧ RFs K H μ x.fs vs
/-- how an exception of ours lies -/
def RXn (K : PySem.W.Frag) (H : Hp) (μ : List Addr) (x : Exn) (c : Value) (od : Option Addr) : Prop := (c = .ref (He.ga K x.cls) ∧ x.cls ∈ Gb.xk) ∧ RXd K H μ x od
/-- what must hold behind a reckoning r that begins in the world (μ, H) -/
def Aft {α : Type} (K : PySem.W.Frag) (E : XK) (μ : List Addr) (H : Hp) (r : R α) (k : α → Sto → List Addr → Hp → Prop) : Prop :=
  ∃ x st', r = some (x, st') ∧ match x with
    | .ok a => ∀ μ' H', Ext μ H μ' H' → RSt K H' μ' st' → k a st' μ' H'
    | .error e => ∀ μ' H' c od, Ext μ H μ' H' → RSt K H' μ' st' → RXn K H' μ' e c od → E c od H'
section
variable {K : PySem.W.Frag} {E : XK} {μ μ' : List Addr} {H H' : Hp} {α β : Type}
theorem Aft.bnd {r : R α} {f : α → Sto → R β} {k : β → Sto → List Addr → Hp → Prop} (h : Aft K E μ H (MP.bnd r f) k) : Aft K E μ H r fun a st μ' H' => Aft K E μ' H' (f a st) k := by
  obtain ⟨x, st', e, h⟩ := h
  cases r with
  | none => cases e
  | some p =>
    obtain ⟨y, s⟩ := p
    cases y with
    | error e' =>
      have z : some (Except.error e', s) = some (x, st') := e
      cases z
      exact ⟨_, _, rfl, h⟩
    | ok a =>
      refine ⟨_, _, rfl, fun μ1 H1 x1 hs => ⟨x, st', e, ?_⟩⟩
      cases x with
      | ok b => exact fun μ2 H2 x2 => h μ2 H2 (x1.trans x2)
      | error b => exact fun μ2 H2 c od x2 => h μ2 H2 c od (x1.trans x2)
theorem Aft.imp {r : R α} {k k' : α → Sto → List Addr → Hp → Prop} (h : Aft K E μ H r k) (i : ∀ a st' μ' H', Ext μ H μ' H' → RSt K H' μ' st' → k a st' μ' H' → k' a st' μ' H') : Aft K E μ H r k' := by
  obtain ⟨x, st', e, h⟩ := h
  refine ⟨x, st', e, ?_⟩
  cases x with
  | ok a => exact fun μ' H' x hs => i _ _ _ _ x hs (h μ' H' x hs)
  | error e => exact h
theorem Aft.eq {r : R α} {k : α → Sto → List Addr → Hp → Prop} (h : Aft K E μ H r k) : Aft K E μ H r fun a st' μ' H' => r = some (.ok a, st') ∧ k a st' μ' H' := by
  obtain ⟨x, st', e, h⟩ := h
  refine ⟨x, st', e, ?_⟩
  cases x with
  | ok a => exact fun μ' H' x hs => ⟨e, h μ' H' x hs⟩
  | error e => exact h
theorem Aft.at {r : R α} {k : α → Sto → List Addr → Hp → Prop} (h : Aft K E μ H r k) (x : Ext μ H μ' H') : Aft K E μ' H' r k := by
  obtain ⟨y, st', e, h⟩ := h
  refine ⟨y, st', e, ?_⟩
  cases y with
  | ok a => exact fun μ2 H2 x2 hs => h μ2 H2 (x.trans x2) hs
  | error e => exact fun μ2 H2 c od x2 hs => h μ2 H2 c od (x.trans x2) hs
theorem Aft.ok {a : α} {st : Sto} {k : α → Sto → List Addr → Hp → Prop} (h : Aft K E μ H (some (.ok a, st)) k) : ∀ {μ' H'}, Ext μ H μ' H' → RSt K H' μ' st → k a st μ' H' := by
  obtain ⟨x, st', e, h⟩ := h
  cases e
  exact fun {μ' H'} x hs => h μ' H' x hs
theorem Aft.none {k : α → Sto → List Addr → Hp → Prop} (h : Aft K E μ H none k) : False := by
  obtain ⟨x, st', e, h⟩ := h
  cases e
theorem Aft.ite {c : Prop} {_ : Decidable c} {r : R α} {k : α → Sto → List Addr → Hp → Prop} (h : Aft K E μ H (if c then r else Option.none) k) : c ∧ Aft K E μ H r k := by
  by_cases hc : c
  · rw [if_pos hc] at h; exact ⟨hc, h⟩
  · rw [if_neg hc] at h; exact h.none.elim
end

/-! ### readings -/
/-- the same wish at all slots -/
abbrev kE (E : XK) : L2.St → XK := fun _ => E
/-- what follows errs no more -/
theorem Aft.noX {K : PySem.W.Frag} {E E' : XK} {μ : List Addr} {H : Hp} {α : Type} {r : R α} {k : α → Sto → List Addr → Hp → Prop} (h : Aft K E μ H (MP.noX r) k) : Aft K E' μ H r k := by
  obtain ⟨x, st', e, h⟩ := h
  cases r with
  | none => cases e
  | some p =>
    obtain ⟨y, s⟩ := p
    cases y with
    | error er => cases e
    | ok a => cases e; exact ⟨_, _, rfl, h⟩
/-- the values of a datum are wanted -/
abbrev KD (K : PySem.W.Frag) (Q : VK) : D → Sto → List Addr → Hp → Prop := fun d _ μ H => ∀ v, RD K H μ d v → Q v H
def rdE (K : PySem.W.Frag) (E : L2.St → XK) (m : Env → Sto → R D) : TE := fun σ H Q => ∃ μ env st, RSt K H μ st ∧ REnv K H μ env σ ∧ Aft K (E σ) μ H (m env st) (KD K Q)
def rdT (K : PySem.W.Frag) (E : L2.St → XK) (m : Env → Sto → R D) : TT := fun σ H Q => ∃ μ env st, RSt K H μ st ∧ REnv K H μ env σ ∧ Aft K (E σ) μ H (m env st) fun d _ _ H' => ∃ b, d = .bl b ∧ Q b H'
def rdA (K : PySem.W.Frag) (E : L2.St → XK) (m : Env → Sto → R (List D)) : TA := fun σ H Q => ∃ μ env st, RSt K H μ st ∧ REnv K H μ env σ ∧ Aft K (E σ) μ H (m env st) fun ds _ μ' H' => ∀ vs, RDs K H' μ' ds vs → Q vs H'
/-- the ways out of a statement -/
def KF (K : PySem.W.Frag) (Dn : Ends) : Fl → Sto → List Addr → Hp → Prop := fun f _ μ H => match f with
  | .nx env => ∀ σ, REnv K H μ env σ → Dn.nx σ H
  | .bk env => ∀ σ, REnv K H μ env σ → Dn.bk σ H
  | .ct env => ∀ σ, REnv K H μ env σ → Dn.ct σ H
  | .rt d => ∀ v, RD K H μ d v → Dn.rt v H
def rdS (K : PySem.W.Frag) (E : XK) (m : Env → Sto → R Fl) : TS := fun Dn σ H => ∃ μ env st, RSt K H μ st ∧ REnv K H μ env σ ∧ Aft K E μ H (m env st) (KF K Dn)

section
variable {X : Cx}
theorem imE {e : Expr} {t t' : TE} (h : PE X e t) (i : ∀ σ H Q, t' σ H Q → t σ H Q) : PE X e t' := ⟨fun pins s σ H Q I q => h.run pins s σ H Q I (i σ H Q q)⟩
theorem imT {e : Expr} {t t' : TT} (h : PT X e t) (i : ∀ σ H Q, t' σ H Q → t σ H Q) : PT X e t' := ⟨fun pins s σ H Q I q => h.run pins s σ H Q I (i σ H Q q)⟩
theorem imW {e : Expr} {t t' : TT} (h : PW X e t) (i : ∀ σ H Q, t' σ H Q → t σ H Q) : PW X e t' := ⟨fun whole pins s σ H Q I q => h.run whole pins s σ H Q I (i σ H Q q)⟩
theorem imA {e : List Expr} {t t' : TA} (h : PA X e t) (i : ∀ σ H Q, t' σ H Q → t σ H Q) : PA X e t' := ⟨fun pos pins s σ H Q I q => h.run pos pins s σ H Q I (i σ H Q q)⟩
theorem imS {e : Stmt} {t t' : TS} (h : PS X e t) (i : ∀ Dn σ H, t' Dn σ H → t Dn σ H) : PS X e t' := ⟨fun pins s σ H Q I q => h.run pins s σ H Q I (i Q σ H q)⟩
theorem imSs {e : List Stmt} {t t' : TS} (h : PSs X e t) (i : ∀ Dn σ H, t' Dn σ H → t Dn σ H) : PSs X e t' := ⟨fun pins s σ H Q I q => h.run pins s σ H Q I (i Q σ H q)⟩
theorem imG {e : Expr} {t t' : TG} (h : PG X e t) (i : ∀ v σ H Q, t' v σ H Q → t v σ H Q) : PG X e t' := ⟨fun pins s σ H x u Q I r q => h.run pins s σ H x u Q I r (i _ _ _ _ q)⟩
theorem imPK {e : List Keyword} {t t' : TA} (h : PK X e t) (i : ∀ σ H Q, t' σ H Q → t σ H Q) : PK X e t' := ⟨fun pos pins s σ H Q I q => h.run pos pins s σ H Q I (i σ H Q q)⟩
end

/-! ### operators -/
section
variable {X : Cx}
theorem op_mulB : OpR X (binaryOp .Mult) (rI (fun i j => i.natAbs.log2 + j.natAbs.log2 < BITS) fun i j => .int (i * j)) := opI fun i j _ _ _ _ _ hc q => mul_int q (by
  have b : ∀ x : Int, Builtin.Int.intBits x ≤ x.natAbs.log2 + 1 := fun x => by
    unfold Builtin.Int.intBits
    split <;> omega
  have h1 := b i
  have h2 := b j
  have h3 : i.natAbs.log2 + j.natAbs.log2 < BITS := hc
  have e0 : BITS = 134217000 := rfl
  have e : bitsLine = 134217728 := by decide
  unfold IntMulOk
  intro z
  rw [Bool.and_eq_true] at z
  have z2 := z.2
  unfold Builtin.Int.intTooBig at z2
  have z3 := of_decide_eq_true z2
  rw [e] at z3
  omega)
theorem op_fdivB : OpR X (binaryOp .FloorDiv) (rI (fun _ j => j ≠ 0 ∧ j.natAbs.log2 < DIVB) fun i j => .int (i.fdiv j)) := opI fun i j _ _ _ _ _ hc q =>
  floordiv_int hc.1 q (.inl (PyProof.noPylong_of_log2 (Nat.lt_of_lt_of_le hc.2 (by decide))))
end
section
variable {X : Cx}
theorem tuple_mul1 (l : Addr) (items : Array Value) (n : Nat) (dd : Option Addr) (sl : Array (Option Value)) (u : Tok) :
    Meets (Builtin.«tuple.__mul__» ⟨[.ref l, .int 1 u], []⟩) (fun _ R s => s.heap.get? l = some { cls := .type "tuple", dict := dd, data := .seq items n, slots := sl } ∧ R (.ok (.ret (Value.ref l))) s) :=
  .of_wp fun prog w A R s h => by
    obtain ⟨hp, g, d, tk, os⟩ := s
    obtain ⟨hl, h⟩ := h
    have f1 := AutoSeq1.idx_int
    have ht : typeOf (.ref l) = typeOf (.ref l) := rfl
    wp_walk using wpAny_loadPart' hl
    repeat (first
      | (refine wpAny_ite_false (decide_eq_false (by decide)) ?_; wp_walk using wpAny_loadPart' hl)
      | (refine wpAny_ite_true (decide_eq_true (by simp)) ?_; wp_walk using wpAny_loadPart' hl))
    exact ⟨_, rfl, h⟩
def rRep1 (K : PySem.W.Frag) : R2 := fun x y H Q => ∃ l k xs, x = .ref l ∧ y = .int k ∧ SqT K H l xs ∧ xs ≠ [] ∧ 1 ≤ k ∧ k ≤ 1000 ∧ xs.length ≤ 1000 ∧ (k = 1 → Q (.ref l) H) ∧ (k ≠ 1 → ∀ p, H p = none → Q (.ref p) (upd H p (.tup (List.replicate k.toNat xs).flatten)))
theorem op_rep1 : OpR X (binaryOp .Mult) (rRep1 X.K) := by
  intro pins s σ H x y v u Q I rx ry h
  obtain ⟨l, k, xs, rfl, rfl, hT, hne, h1, h2, hz, q1, q2⟩ := h
  by_cases e : k = 1
  · subst e
    cases rx
    obtain ⟨t, rfl⟩ := ry
    obtain ⟨its, r, ⟨⟨cls, dd, data, sl⟩, ho, hc, n, hd⟩, hs⟩ := I.tuple hT
    simp only at hc hd
    subst hc hd
    refine wpAny_binaryOp_repeat_ref (T := "tuple") (U := "int") (by decide) ⟨_, ho, rfl⟩ (fun s' => typeIs_int s' 1 t) noFill_tuple_mul F.fills_int_mul F.slot_int_rmul repeat_tuple F.slot_int_index.lookup
      (call_meets F.slot_int_rmul (typeIs_int s 1 t) F.entry_int_rmul (F.args_int_rmul_2 _ _) (int_rmul_tuple 1 t l its.toArray n dd sl)
        ⟨ho, rfl, ⟨_, ho, rfl⟩, call_meets F.slot_tuple_mul ⟨_, ho, rfl⟩ F.entry_tuple_mul (F.args_tuple_mul_2 _ _) (tuple_mul1 l its.toArray n dd sl t) ⟨ho, ?_⟩⟩)
    exact ⟨.ref l, H, I, rfl, q1 rfl⟩
  · exact op_repT pins s σ H _ _ v u Q I rx ry ⟨l, k, xs, rfl, rfl, hT, hne, by omega, h2, hz, q2 e⟩
def rAddS : R2 := fun x y H Q => ∃ i j, x = .str i ∧ y = .str j ∧ i.length + j.length ≤ sizeLine ∧ Q (.str (i ++ j)) H
end
section
variable {X : Cx}
theorem foldl_cat (n : Nat) (a acc : Array Nat) : (List.replicate n a).foldl (· ++ ·) acc = acc ++ (List.replicate n a.toList).flatten.toArray := by
  induction n generalizing acc with
  | zero => simp
  | succ n ih =>
    rw [List.replicate_succ, List.foldl_cons, ih, List.replicate_succ, Array.append_assoc]
    congr 1
    apply Array.toList_inj.mp
    simp
theorem mul_text (a : Str) (k : Int) : Txt.mul a k = repT a k := by
  unfold Txt.mul repT
  split
  · rename_i h
    rw [show k.toNat = 0 by omega]
    rfl
  · split
    · rename_i h1 h2
      rcases Bool.or_eq_true_iff.mp h2 with h | h
      · have : k = 1 := by simpa using h
        subst this
        cases a
        simp
      · have h0 : a.cps.size = 0 := by simpa [Str.length] using h
        have : a.cps = #[] := Array.eq_empty_of_size_eq_zero h0
        cases a
        simp_all
    · rw [foldl_cat]
      simp
theorem mul_ok {a : Str} {k : Int} (h1 : -1000 ≤ k) (h2 : k ≤ 1000) (h3 : a.length ≤ 1000) : MulOk a k := by
  refine ⟨by simp; omega, fun h _ => ?_, fun h _ => ?_⟩
  · have : (1000 : Int) ≤ (2 ^ 63 - 1) / k := by
      rw [Int.le_ediv_iff_mul_le (by omega)]
      omega
    omega
  · have : a.length * k.toNat ≤ 1000 * 1000 := Nat.mul_le_mul h3 (by omega)
    have hz : sizeLine = 2 ^ 24 := rfl
    unfold Builtin.Str.tooLong
    simp only [decide_eq_false_iff_not]
    omega
def rMulS : R2 := fun x y H Q => ∃ a k, x = .str a ∧ y = .int k ∧ -1000 ≤ k ∧ k ≤ 1000 ∧ a.length ≤ 1000 ∧ Q (.str (repT a k)) H
theorem op_mul_text : OpR X (binaryOp .Mult) rMulS := by
  intro pins s σ H x y v u Q I rx ry h
  obtain ⟨a, k, rfl, rfl, h1, h2, h3, q⟩ := h
  obtain ⟨t, rfl⟩ := rx
  obtain ⟨t', rfl⟩ := ry
  exact PySem.SB.mul (mul_ok h1 h2 h3) fun t' n => ⟨.str (repT a k), H, I.tok n, ⟨t', by rw [mul_text]⟩, q⟩
end
/-- what an operator of ours is by values -/
def rBin (K : PySem.W.Frag) : Operator → R2
  | .Add => fun x y H Q => ((rI0 (fun i j => .int (i + j)) x y H Q ∨ rCatA K x y H Q) ∨ rCat x y H Q) ∨ rAddS x y H Q
  | .Sub => rI0 fun i j => .int (i - j)
  | .Mult => fun x y H Q => (rI (fun i j => i.natAbs.log2 + j.natAbs.log2 < BITS) (fun i j => .int (i * j)) x y H Q ∨ rRep1 K x y H Q) ∨ rRep x y H Q ∨ rMulS x y H Q
  | .FloorDiv => rI (fun _ j => j ≠ 0 ∧ j.natAbs.log2 < DIVB) fun i j => .int (i.fdiv j)
  | .Mod => rI (fun _ j => j ≠ 0) fun i j => .int (i.fmod j)
  | .Pow => rI CPow fun i j => .int (i ^ j.toNat)
  | .LShift => rI CShl fun i j => .int (i * 2 ^ j.toNat)
  | .RShift => rI (fun _ j => 0 ≤ j) fun i j => .int (i / 2 ^ j.toNat)
  | _ => fun _ _ _ _ => False
theorem rBin_ok {X : Cx} (op : Operator) : OpR X (binaryOp op) (rBin X.K op) := by
  cases op with
  | Add => exact ((op_add.or op_catA).or op_cat).or op_add_str
  | Sub => exact op_sub
  | Mult => exact (op_mulB.or op_rep1).or (op_rep.or op_mul_text)
  | FloorDiv => exact op_fdivB
  | Mod => exact op_modN
  | Pow => exact op_pow
  | LShift => exact op_shlW
  | RShift => exact op_shr
  | _ => exact fun _ _ _ _ _ _ _ _ _ _ _ _ h => False.elim h
theorem line_eq : LINE = sizeLine := by decide
section
variable {K : PySem.W.Frag} {E : XK} {μ : List Addr} {H : Hp} {st : Sto} {Q : VK} {x y : D} {v w : V}
/-- a value of this world -/
theorem Aft.val {d : D} (h : Aft K E μ H (some (.ok d, st)) (KD K Q)) (hs : RSt K H μ st) {v : V} (r : RD K H μ d v) : Q v H := h.ok (Ext.refl μ H) hs v r
theorem rBin_of {op : Operator} (hs : RSt K H μ st) (rx : RD K H μ x v) (ry : RD K H μ y w) (h : Aft K E μ H (binop op x y st) (KD K Q)) : rBin K op v w H Q := by
  unfold binop at h
  split at h
  · exact .inl (.inl (.inl ⟨_, _, rx, ry, h.val hs rfl⟩))
  · exact ⟨_, _, rx, ry, h.val hs rfl⟩
  · obtain ⟨c, h⟩ := h.ite
    exact .inl (.inl ⟨_, _, rx, ry, c, h.val hs rfl⟩)
  · obtain ⟨c, h⟩ := h.ite
    exact ⟨_, _, rx, ry, c, h.val hs rfl⟩
  · obtain ⟨c, h⟩ := h.ite
    exact ⟨_, _, rx, ry, c, h.val hs rfl⟩
  · obtain ⟨c, h⟩ := h.ite
    exact ⟨_, _, rx, ry, c, h.val hs rfl⟩
  · obtain ⟨⟨c1, c2⟩, h⟩ := h.ite
    refine ⟨_, _, rx, ry, ⟨c1, ?_⟩, h.val hs rfl⟩
    have b : ∀ x : Int, Builtin.Int.intBits x ≤ x.natAbs.log2 + 1 := fun x => by
      unfold Builtin.Int.intBits
      split <;> omega
    have := b ‹Int›
    rename_i i j _
    have := b i
    unfold BITS at c2
    show (Builtin.Int.intBits i : Int) + j ≤ 134217728
    omega
  · obtain ⟨c, h⟩ := h.ite
    exact ⟨_, _, rx, ry, c, h.val hs rfl⟩
  · obtain ⟨c2, h⟩ := h.ite
    obtain ⟨a, xs, rfl, sa, ra⟩ := rx
    obtain ⟨b, ys, rfl, sb, rb⟩ := ry
    refine .inl (.inl (.inr ⟨a, b, xs, ys, rfl, rfl, sa, sb, by rw [ra.length, rb.length, ← line_eq]; exact c2, fun e => ?_, fun e e2 => ?_, fun e e2 p hp => ?_⟩))
    · subst e
      exact h.val hs ⟨b, ys, rfl, sb, by simpa using ra.append rb⟩
    · subst e2
      exact h.val hs ⟨a, xs, rfl, sa, by simpa using ra.append rb⟩
    · exact h.ok (Ext.newO hp) (hs.new hp) _ ⟨p, xs ++ ys, rfl, .of upd_same, (ra.append rb).mono (Mono.new hp) (List.prefix_refl _)⟩
  · obtain ⟨c, h⟩ := h.ite
    rw [show v = _ from rx, show w = _ from ry]
    exact .inr ⟨_, _, rfl, rfl, by rw [← line_eq]; exact c, h.val hs rfl⟩
  · split at h
    · rename_i e1 e2
      obtain ⟨c, h⟩ := h.ite
      obtain ⟨a, rfl, ha⟩ := rx
      obtain ⟨a', ha', xs, h1, h2⟩ := hs.get e1
      rw [ha] at ha'; cases ha'
      obtain ⟨b, rfl, hb⟩ := ry
      obtain ⟨b', hb', ys, h3, h4⟩ := hs.get e2
      rw [hb] at hb'; cases hb'
      exact .inl (.inr ⟨a, b, xs, ys, rfl, rfl, h1, h3, by rw [h2.length, h4.length, ← line_eq]; exact c, fun p hp => h.ok (Ext.push hp) (hs.push hp (h2.append h4)) _ ⟨p, rfl, by rw [← hs.len]; simp⟩⟩)
    · exact h.none.elim
  · obtain ⟨⟨c1, c2, c3⟩, h⟩ := h.ite
    exact .inr (.inr ⟨_, _, rx, ry, c1, c2, c3, h.val hs rfl⟩)
  · obtain ⟨⟨c1, c2, c3, c4⟩, h⟩ := h.ite
    obtain ⟨a, xs, rfl, sa, ra⟩ := rx
    rw [show w = _ from ry]
    have ne : xs ≠ [] := fun z => by
      have l := ra.length
      rw [z] at l
      exact c1 (List.eq_nil_of_length_eq_zero l.symm)
    refine .inl (.inr ⟨a, _, xs, rfl, rfl, sa, ne, c2, c3, by rw [ra.length]; exact c4, fun e => ?_, fun e p hp => ?_⟩)
    · subst e
      exact h.val hs ⟨a, xs, rfl, sa, by simpa using ra⟩
    · exact h.ok (Ext.newO hp) (hs.new hp) _ ⟨p, _, rfl, .of upd_same, (ra.rep _).mono (Mono.new hp) (List.prefix_refl _)⟩
  · split at h
    · rename_i e1
      obtain ⟨⟨c1, c2, c3⟩, h⟩ := h.ite
      obtain ⟨a, rfl, ha⟩ := rx
      obtain ⟨a', ha', xs, h1, h2⟩ := hs.get e1
      rw [ha] at ha'; cases ha'
      rw [show w = _ from ry]
      exact .inr (.inl ⟨a, _, xs, rfl, rfl, h1, by omega, by omega, by rw [h2.length, ← line_eq]; exact c3, fun p hp => h.ok (Ext.push hp) (hs.push hp (h2.rep _)) _ ⟨p, rfl, by rw [← hs.len]; simp⟩⟩)
    · exact h.none.elim
  · exact h.none.elim
end

/-! ### == of data -/
mutual
def py : D → PyData
  | .non => .none
  | .bl b => .bool b
  | .int i => .int i
  | .str s => .str s
  | .tup ds => .tuple (pys ds)
  | .rol ds => .list (pys ds)
  | .loc _ => .none
def pys : List D → List PyData
  | [] => []
  | d :: ds => py d :: pys ds
end
mutual
theorem py_eqv : ∀ (k j : Nat) (x y : D), shp k x = true → shp j y = true → eqD x y = PyData.eqv (py x) (py y)
  | k, j, x, y, hx, hy => by
    cases x <;> cases y <;> first
      | rfl
      | (cases hx; done)
      | (cases hy; done)
      | (cases k <;> cases hx; done)
      | (cases j <;> cases hy; done)
      | (rename_i a b
         cases k with
         | zero => cases hx
         | succ k => cases j with
           | zero => cases hy
           | succ j =>
             show eqDs a b = PyData.eqvAll (pys a) (pys b)
             exact pys_eqv k j a b hx hy)
      | (cases k <;> simp [shp] at hx; done)
      | (cases j <;> simp [shp] at hy; done)
      | simp [eqD, py, PyData.eqv]
theorem pys_eqv : ∀ (k j : Nat) (x y : List D), shps k x = true → shps j y = true → eqDs x y = PyData.eqvAll (pys x) (pys y)
  | _, _, [], [], _, _ => by simp [eqDs, pys, PyData.eqvAll]
  | _, _, [], _ :: _, _, _ => by simp [eqDs, pys, PyData.eqvAll]
  | _, _, _ :: _, [], _, _ => by simp [eqDs, pys, PyData.eqvAll]
  | k, j, x :: xs, y :: ys, hx, hy => by
    obtain ⟨h1, h2⟩ := Bool.and_eq_true_iff.mp (show (shp k x && shps k xs) = true from hx)
    obtain ⟨h3, h4⟩ := Bool.and_eq_true_iff.mp (show (shp j y && shps j ys) = true from hy)
    show (eqD x y && eqDs xs ys) = (PyData.eqv (py x) (py y) && PyData.eqvAll (pys xs) (pys ys))
    rw [py_eqv k j x y h1 h3, pys_eqv k j xs ys h2 h4]
end
end MP

set_option Elab.async false
set_option linter.all false
set_option maxRecDepth 100000
set_option maxHeartbeats 2000000
namespace MP
open PySem PySem.Spec PyProof.Rows L2
variable [Gb]

theorem strGood_ok {s : Str} (h : strGood s = true) : PyData.strOk s = true := by
  unfold PyData.strOk
  exact h
mutual
theorem shp_lay : ∀ (k : Nat) (d : D), shp k d = true → PyData.canLay0 (py d) = true ∧ (py d).depth ≤ k
  | _, .non, _ => ⟨rfl, Nat.zero_le _⟩
  | _, .bl _, _ => ⟨rfl, Nat.zero_le _⟩
  | _, .int _, _ => ⟨rfl, Nat.zero_le _⟩
  | k, .str s, h => ⟨strGood_ok (by cases k <;> exact h), Nat.zero_le _⟩
  | 0, .tup _, h => by cases h
  | k + 1, .tup ds, h => by
    obtain ⟨h1, h2⟩ := shps_lay k ds h
    exact ⟨h1, Nat.succ_le_succ h2⟩
  | k, .loc _, h => by cases k <;> cases h
  | k, .rol _, h => by cases k <;> cases h
theorem shps_lay : ∀ (k : Nat) (ds : List D), shps k ds = true → PyData.canLayAll0 (pys ds) = true ∧ PyData.depthAll (pys ds) ≤ k
  | _, [], _ => ⟨rfl, Nat.zero_le _⟩
  | k, d :: ds, h => by
    obtain ⟨h1, h2⟩ := Bool.and_eq_true_iff.mp (show (shp k d && shps k ds) = true from h)
    obtain ⟨a1, a2⟩ := shp_lay k d h1
    obtain ⟨b1, b2⟩ := shps_lay k ds h2
    exact ⟨Bool.and_eq_true_iff.mpr ⟨a1, b1⟩, Nat.max_le.mpr ⟨a2, b2⟩⟩
end
section
variable {K : PySem.W.Frag} {H : Hp} {μ : List Addr}
mutual
theorem RD.dp : ∀ (k : Nat) (d : D) {v : V}, shp k d = true → RD K H μ d v → Dp K H v (py d)
  | _, .non, v, _, h => by rw [show v = _ from h]; exact .non
  | _, .bl b, v, _, h => by rw [show v = _ from h]; exact .bl b
  | _, .int i, v, _, h => by rw [show v = _ from h]; exact .int i
  | _, .str s, v, _, h => by rw [show v = _ from h]; exact .str s
  | 0, .tup _, _, h, _ => by cases h
  | k + 1, .tup ds, v, h, ⟨a, vs, e, h1, h2⟩ => by rw [e]; exact .tup h1 (RDs.dp k ds h h2)
  | k, .loc _, _, h, _ => by cases k <;> cases h
  | k, .rol _, _, h, _ => by cases k <;> cases h
theorem RDs.dp : ∀ (k : Nat) (ds : List D) {vs : List V}, shps k ds = true → RDs K H μ ds vs → DpAll K H vs (pys ds)
  | _, [], vs, _, h => by rw [show vs = _ from h]; exact .nil
  | k, d :: ds, vs, h, ⟨v, r, e, h1, h2⟩ => by
    obtain ⟨a, b⟩ := Bool.and_eq_true_iff.mp (show (shp k d && shps k ds) = true from h)
    rw [e]
    exact .cons (RD.dp k d a h1) (RDs.dp k ds b h2)
end
end
def rInD (neg : Bool) : R2 := fun x y H Q => ∃ a o, y = .ref a ∧ DGet H a x o ∧ Q (.bl (if neg then !o.isSome else o.isSome)) H
theorem op_in_dict {X : Cx} (hu : X.A.units + 64 < cLine) : OpR X (compareOp .In) (rInD false) := by
  intro pins s σ H x y v u Q I rx ry h
  obtain ⟨a, o, rfl, g, q⟩ := h
  cases ry
  have hu1 : X.A.units + 1 < cLine := by omega
  exact d_in hu1 I g rx fun s' I' => ⟨.bl _, H, I', rfl, q⟩
theorem op_notIn_dict {X : Cx} (hu : X.A.units + 64 < cLine) : OpR X (compareOp .NotIn) (rInD true) := by
  intro pins s σ H x y v u Q I rx ry h
  obtain ⟨a, o, rfl, g, q⟩ := h
  cases ry
  have hu1 : X.A.units + 1 < cLine := by omega
  exact d_notIn hu1 I g rx fun s' I' => ⟨.bl _, H, I', rfl, q⟩
def rInT (neg : Bool) : R2 := fun x y H Q => ∃ i j, x = .str i ∧ y = .str j ∧ Q (.bl (if neg then !hasT i j else hasT i j)) H
/-- a comparison of ours by values -/
def rCmp (K : PySem.W.Frag) : CmpOp → R2
  | .Lt => rI0 fun i j => .bl (decide (i < j))
  | .LtE => rI0 fun i j => .bl (decide (i ≤ j))
  | .Gt => rI0 fun i j => .bl (decide (j < i))
  | .GtE => rI0 fun i j => .bl (decide (j ≤ i))
  | .Eq => fun x y H Q => rEq x y H Q ∨ rEqD K x y H Q
  | .NotEq => fun x y H Q => rNe x y H Q ∨ rNeD K x y H Q
  | .Is => fun x y H Q => y = .non ∧ Q (.bl (decide (x = .non))) H
  | .IsNot => fun x y H Q => y = .non ∧ Q (.bl (!decide (x = .non))) H
  | .In => fun x y H Q => (rInT false x y H Q ∨ rIn K false x y H Q) ∨ rInD false x y H Q
  | .NotIn => fun x y H Q => (rInT true x y H Q ∨ rIn K true x y H Q) ∨ rInD true x y H Q
theorem rCmp_ok {X : Cx} (hu : X.A.units + 64 < cLine) (op : CmpOp) : OpR X (compareOp op) (rCmp X.K op) := by
  cases op with
  | Lt => exact op_lt
  | LtE => exact op_le
  | Gt => exact op_gt
  | GtE => exact op_ge
  | Eq => exact op_eq.or (op_eqD hu)
  | NotEq => exact op_ne.or (op_neD hu)
  | Is => exact op_isN
  | IsNot => exact op_notN
  | In => exact (op_in_str.or op_in_seq).or (op_in_dict hu)
  | NotIn => exact (op_notIn_str.or op_notIn_seq).or (op_notIn_dict hu)
section
variable {K : PySem.W.Frag} {E : XK} {μ : List Addr} {H : Hp} {st : Sto} {Q : VK} {x y : D} {v w : V}
theorem shaped_of {k : Nat} {ds : List D} (h : shps k ds = true) (hk : k ≤ 63) : SeqAt.shaped (py (.tup ds)) = true := by
  obtain ⟨h1, h2⟩ := shps_lay k ds h
  unfold SeqAt.shaped
  refine Bool.and_eq_true_iff.mpr ⟨h1, decide_eq_true ?_⟩
  show PyData.depthAll (pys ds) + 1 ≤ 64
  omega
theorem shapedL_of {k : Nat} {ds : List D} (h : shps k ds = true) (hk : k ≤ 63) : SeqAt.shaped (.list (pys ds)) = true := by
  obtain ⟨h1, h2⟩ := shps_lay k ds h
  unfold SeqAt.shaped
  refine Bool.and_eq_true_iff.mpr ⟨h1, decide_eq_true ?_⟩
  show PyData.depthAll (pys ds) + 1 ≤ 64
  omega
def vOf : D → V
  | .bl b => .bl b
  | .int i => .int i
  | .str s => .str s
  | _ => .non
theorem isNon_v {d : D} {u : V} (r : RD K H μ d u) : isNon d = decide (u = .non) := by
  cases d with
  | non => rw [show u = _ from r]; rfl
  | bl b => rw [show u = _ from r]; rfl
  | int b => rw [show u = _ from r]; rfl
  | str b => rw [show u = _ from r]; rfl
  | tup b => obtain ⟨a, _, e, _⟩ := r; rw [e]; rfl
  | loc b => obtain ⟨a, e, _⟩ := r; rw [e]; rfl
  | rol b => obtain ⟨a, _, e, _⟩ := r; rw [e]; rfl
theorem flat_v {d : D} {u : V} (r : RD K H μ d u) (f : flatD d = true) : flatV u = true := by
  cases d <;> first | (rw [show u = _ from r]; rfl) | cases f
theorem flat_vs : ∀ {ds : List D} {us : List V}, RDs K H μ ds us → ds.all flatD = true → us.all flatV = true
  | [], us, r, _ => by rw [show us = _ from r]; rfl
  | d :: ds, us, ⟨v, r, e, h1, h2⟩, f => by
    obtain ⟨a, b⟩ := Bool.and_eq_true_iff.mp (show (flatD d && ds.all flatD) = true from f)
    rw [e]
    exact Bool.and_eq_true_iff.mpr ⟨flat_v h1 a, flat_vs h2 b⟩
theorem eq_v {d e : D} {u t : V} (r1 : RD K H μ d u) (r2 : RD K H μ e t) (f1 : flatD d = true) (f2 : flatD e = true) : eqV u t = eqD d e := by
  cases d <;> cases e <;> first
    | (rw [show u = _ from r1, show t = _ from r2]; simp [eqV, eqD]; done)
    | (cases f1; done)
    | (cases f2; done)
theorem in_v {x : D} {v : V} (rx : RD K H μ x v) (fx : flatD x = true) : ∀ {ds : List D} {us : List V}, RDs K H μ ds us → ds.all flatD = true → inV v us = inD x ds
  | [], us, r, _ => by rw [show us = _ from r]; rfl
  | d :: ds, us, ⟨u, r, e, h1, h2⟩, f => by
    obtain ⟨a, b⟩ := Bool.and_eq_true_iff.mp (show (flatD d && ds.all flatD) = true from f)
    rw [e]
    show (eqV u v || inV v r) = (eqD d x || inD x ds)
    rw [eq_v h1 rx a fx, in_v rx fx h2 b]
theorem key_v {x : D} {v : V} {k : Key} (r : RD K H μ x v) (h : keyD x = some k) : v = kV k := by
  cases x <;> cases h
  · exact r
  · exact r
theorem has_keys (k : Key) : ∀ {kvs : List (Key × D)} {ws : List (Key × V)}, kvs.map (·.1) = ws.map (·.1) → (dvl kvs k).isSome = (valV ws k).isSome
  | [], [], _ => rfl
  | [], _ :: _, e => by cases e
  | _ :: _, [], e => by cases e
  | (k0, d0) :: kvs, (k1, v1) :: ws, e => by
    obtain ⟨e1, e2⟩ := List.cons.inj e
    have e1 : k0 = k1 := e1
    subst e1
    by_cases c : k0 = k
    · subst c
      rw [valV_pos rfl]
      simp [dvl, List.find?_cons]
    · rw [valV_neg c, ← has_keys k e2]
      simp [dvl, List.find?_cons, c]
theorem rCmp_of {op : CmpOp} (hs : RSt K H μ st) (rx : RD K H μ x v) (ry : RD K H μ y w) (h : Aft K E μ H (cmpop op x y st) (KD K Q)) : rCmp K op v w H Q := by
  unfold cmpop at h
  split at h
  · exact ⟨_, _, rx, ry, h.val hs rfl⟩
  · exact ⟨_, _, rx, ry, h.val hs rfl⟩
  · exact ⟨_, _, rx, ry, h.val hs rfl⟩
  · exact ⟨_, _, rx, ry, h.val hs rfl⟩
  · rw [show v = _ from rx, show w = _ from ry]
    exact .inl ⟨rfl, by simpa using h.val hs (v := V.bl _) rfl⟩
  · rw [show v = _ from rx, show w = _ from ry]
    exact .inl ⟨rfl, by simpa using h.val hs (v := V.bl _) rfl⟩
  · rw [show v = _ from rx, show w = _ from ry]
    exact .inl ⟨rfl, by simpa using h.val hs (v := V.bl _) rfl⟩
  · rw [show v = _ from rx, show w = _ from ry]
    exact .inl ⟨rfl, by simpa using h.val hs (v := V.bl _) rfl⟩
  · rw [show v = _ from rx, show w = _ from ry]
    exact .inl ⟨rfl, by simpa using h.val hs (v := V.bl _) rfl⟩
  · rw [show v = _ from rx, show w = _ from ry]
    exact .inl ⟨rfl, by simpa using h.val hs (v := V.bl _) rfl⟩
  · obtain ⟨⟨c1, c2⟩, h⟩ := h.ite
    refine .inr ⟨_, _, RD.dp 61 (.tup _) c1 rx, RD.dp 61 (.tup _) c2 ry, shaped_of c1 (by decide), shaped_of c2 (by decide), ?_⟩
    exact h.val hs (congrArg V.bl (pys_eqv 60 60 _ _ c1 c2).symm)
  · obtain ⟨⟨c1, c2⟩, h⟩ := h.ite
    refine .inr ⟨_, _, RD.dp 61 (.tup _) c1 rx, RD.dp 61 (.tup _) c2 ry, shaped_of c1 (by decide), shaped_of c2 (by decide), ?_⟩
    exact h.val hs (congrArg V.bl (congrArg not (pys_eqv 60 60 _ _ c1 c2).symm))
  · split at h
    · rename_i e1 e2
      obtain ⟨⟨c1, c2⟩, h⟩ := h.ite
      obtain ⟨a, rfl, ha⟩ := rx
      obtain ⟨a', ha', xs, h1, h2⟩ := hs.get e1
      rw [ha] at ha'; cases ha'
      obtain ⟨b, rfl, hb⟩ := ry
      obtain ⟨b', hb', ys, h3, h4⟩ := hs.get e2
      rw [hb] at hb'; cases hb'
      exact .inr ⟨.list _, .list _, .lst (.of h1) (RDs.dp 60 _ c1 h2), .lst (.of h3) (RDs.dp 60 _ c2 h4), shapedL_of c1 (by decide), shapedL_of c2 (by decide), h.val hs (congrArg V.bl (pys_eqv 60 60 _ _ c1 c2).symm)⟩
    · exact h.none.elim
  · split at h
    · rename_i e1 e2
      obtain ⟨⟨c1, c2⟩, h⟩ := h.ite
      obtain ⟨a, rfl, ha⟩ := rx
      obtain ⟨a', ha', xs, h1, h2⟩ := hs.get e1
      rw [ha] at ha'; cases ha'
      obtain ⟨b, rfl, hb⟩ := ry
      obtain ⟨b', hb', ys, h3, h4⟩ := hs.get e2
      rw [hb] at hb'; cases hb'
      exact .inr ⟨.list _, .list _, .lst (.of h1) (RDs.dp 60 _ c1 h2), .lst (.of h3) (RDs.dp 60 _ c2 h4), shapedL_of c1 (by decide), shapedL_of c2 (by decide), h.val hs (congrArg V.bl (congrArg not (pys_eqv 60 60 _ _ c1 c2).symm))⟩
    · exact h.none.elim
  · exact .inl (.inl ⟨_, _, rx, ry, h.val hs rfl⟩)
  · exact .inl (.inl ⟨_, _, rx, ry, h.val hs rfl⟩)
  · obtain ⟨⟨c1, c2⟩, h⟩ := h.ite
    obtain ⟨a, xs, rfl, sa, ra⟩ := ry
    exact .inl (.inr ⟨a, xs, rfl, .inr sa, flat_v rx c1, flat_vs ra c2, h.val hs (congrArg V.bl (in_v rx c1 ra c2))⟩)
  · obtain ⟨⟨c1, c2⟩, h⟩ := h.ite
    obtain ⟨a, xs, rfl, sa, ra⟩ := ry
    exact .inl (.inr ⟨a, xs, rfl, .inr sa, flat_v rx c1, flat_vs ra c2, h.val hs (congrArg V.bl (congrArg not (in_v rx c1 ra c2)))⟩)
  · split at h
    · rename_i e1
      obtain ⟨⟨c1, c2⟩, h⟩ := h.ite
      obtain ⟨b, rfl, hb⟩ := ry
      obtain ⟨b', hb', ys, h3, h4⟩ := hs.get e1
      rw [hb] at hb'; cases hb'
      exact .inl (.inr ⟨b, ys, rfl, .inl (.of h3), flat_v rx c1, flat_vs h4 c2, h.val hs (congrArg V.bl (in_v rx c1 h4 c2))⟩)
    · rename_i e1
      split at h
      · rename_i k ek
        obtain ⟨b, rfl, hb⟩ := ry
        obtain ⟨b', hb', ws, h1, h3, h2⟩ := hs.get e1
        rw [hb] at hb'; cases hb'
        exact .inr ⟨b, _, rfl, by rw [key_v rx ek]; exact DGet.k h1, h.val hs (congrArg V.bl (has_keys k h3).symm)⟩
      · exact h.none.elim
    · exact h.none.elim
  · split at h
    · rename_i e1
      obtain ⟨⟨c1, c2⟩, h⟩ := h.ite
      obtain ⟨b, rfl, hb⟩ := ry
      obtain ⟨b', hb', ys, h3, h4⟩ := hs.get e1
      rw [hb] at hb'; cases hb'
      exact .inl (.inr ⟨b, ys, rfl, .inl (.of h3), flat_v rx c1, flat_vs h4 c2, h.val hs (congrArg V.bl (congrArg not (in_v rx c1 h4 c2)))⟩)
    · rename_i e1
      split at h
      · rename_i k ek
        obtain ⟨b, rfl, hb⟩ := ry
        obtain ⟨b', hb', ws, h1, h3, h2⟩ := hs.get e1
        rw [hb] at hb'; cases hb'
        exact .inr ⟨b, _, rfl, by rw [key_v rx ek]; exact DGet.k h1, h.val hs (congrArg V.bl (congrArg not (has_keys k h3)).symm)⟩
      · exact h.none.elim
    · exact h.none.elim
  · refine ⟨ry, h.val hs ?_⟩
    exact congrArg V.bl (isNon_v rx).symm
  · refine ⟨ry, h.val hs ?_⟩
    exact congrArg V.bl (congrArg not (isNon_v rx).symm)
  · exact h.none.elim
end
end MP

set_option Elab.async false
set_option linter.all false
set_option maxRecDepth 100000
set_option maxHeartbeats 2000000
namespace MP
open PySem PySem.Spec PyProof.Rows L2
variable [Gb]

section
variable {K : PySem.W.Frag} {E : XK} {μ : List Addr} {H : Hp} {st : Sto} {Q : VK} {x y : D} {v w : V}

/-! ### truth -/
theorem tru_of {Q : Bool → Hp → Prop} (hs : RSt K H μ st) (rx : RD K H μ x v) (h : Aft K E μ H (tru x st) fun d _ _ H' => ∃ b, d = .bl b ∧ Q b H') : ∃ k, TruV K v H k ∧ Q k H := by
  have fin : ∀ {b : Bool} {k : Bool}, Aft K E μ H (some (.ok (D.bl b), st)) (fun (d : D) _ _ H' => ∃ b, d = .bl b ∧ Q b H') → k = b → Q k H := fun {b k} h e => by
    obtain ⟨b', e', q⟩ := h.ok (Ext.refl μ H) hs
    rw [e]
    cases e'
    exact q
  have nil : ∀ {ds : List D} {vs : List V}, RDs K H μ ds vs → (!vs.isEmpty) = !ds.isEmpty := fun {ds vs} r => by
    cases ds with
    | nil => rw [show vs = [] from r] <;> rfl
    | cons d ds => obtain ⟨_, _, e, _⟩ := r; rw [e]; rfl
  unfold tru at h
  split at h
  · rw [show v = _ from rx]; exact ⟨false, rfl, fin h rfl⟩
  · rw [show v = _ from rx]; exact ⟨_, rfl, fin h rfl⟩
  · rw [show v = _ from rx]; exact ⟨_, rfl, fin h rfl⟩
  · obtain ⟨a, vs, rfl, h1, h2⟩ := rx
    exact ⟨_, .inr (.inl ⟨vs, h1, rfl⟩), fin h (nil h2)⟩
  · obtain ⟨a, vs, rfl, h1, h2⟩ := rx
    exact ⟨_, .inl ⟨vs, h1.sq, rfl⟩, fin h (nil h2)⟩
  · split at h
    · rename_i e
      obtain ⟨a, rfl, ha⟩ := rx
      obtain ⟨a', ha', vs, h1, h2⟩ := hs.get e
      rw [ha] at ha'; cases ha'
      exact ⟨_, .inl ⟨vs, .of h1, rfl⟩, fin h (nil h2)⟩
    · exact h.none.elim
  · exact h.none.elim

/-! ### subscripts -/
theorem ixN_eq (n : Nat) (i : Int) : ixN n i = L2.ixN n i := rfl
theorem atI_of {ds : List D} {vs : List V} {i : Int} {d : D} (r : RDs K H μ ds vs) (h : atI ds i = some d) : ∃ u, L2.atI vs i = some u ∧ RD K H μ d u := by
  unfold atI at h
  cases e : ixN ds.length i with
  | none => rw [e] at h; cases h
  | some j =>
    rw [e] at h
    obtain ⟨u, h1, h2⟩ := r.get (show ds[j]? = some d from h)
    refine ⟨u, ?_, h2⟩
    unfold L2.atI
    rw [r.length, ← ixN_eq, e]
    exact h1
theorem dvl_of : ∀ {kvs : List (Key × D)} {ws : List (Key × V)} {k : Key} {d : D}, kvs.map (·.1) = ws.map (·.1) → RDs K H μ (kvs.map (·.2)) (ws.map (·.2)) → dvl kvs k = some d → ∃ v, valV ws k = some v ∧ RD K H μ d v
  | [], _, k, d, _, _, h => by cases h
  | (k0, d0) :: kvs, [], k, d, e, _, h => by cases e
  | (k0, d0) :: kvs, (k1, v1) :: ws, k, d, e, r, h => by
    obtain ⟨v, vs, ev, r1, r2⟩ := r
    obtain ⟨e1, e2⟩ := List.cons.inj e
    obtain ⟨e3, e4⟩ := List.cons.inj ev
    have e1 : k0 = k1 := e1
    have e3 : v1 = v := e3
    subst e1 e3
    have e4 : ws.map (·.2) = vs := e4
    subst e4
    by_cases c : k0 = k
    · subst c
      have : dvl ((k0, d0) :: kvs) k0 = some d0 := by simp [dvl, List.find?_cons]
      rw [this] at h
      cases h
      exact ⟨v1, valV_pos rfl, r1⟩
    · have : dvl ((k0, d0) :: kvs) k = dvl kvs k := by simp [dvl, List.find?_cons, c]
      rw [this] at h
      obtain ⟨v, q1, q2⟩ := dvl_of e2 r2 h
      exact ⟨v, by rw [valV_neg c]; exact q1, q2⟩
def rIxD : R2 := fun x y H Q => ∃ a v, x = .ref a ∧ DGet H a y (some v) ∧ Q v H
theorem ix_dict {X : Cx} (hu : X.A.units + 64 < cLine) : IxR X rIxD := by
  intro value slice pins s σ H x y v u Q I rx ry h hs
  obtain ⟨a, w, rfl, g, q⟩ := h
  obtain rfl : v = Value.ref a := rx
  have hT := dict_typeIs I g
  have hu1 : X.A.units + 1 < cLine := by omega
  have h₂ := d_getItem (E := X.xe) hu1 I g ry fun w' s3 I3 rw' => (⟨w, H, I3, rw', q⟩ : EP X pins σ Q w' s3)
  unfold subscriptTail
  refine wpAny_bind ?_
  rw [getitemInPython_of_ne hT.not_modules]
  refine wpAny_bind (wpAny_specialOf hT PySem.F.slot_dict_getitem.lookup ?_)
  have fin : wpAny (model X.prog X.w) X.A (subscripted slice false (.ref a) u) (fun r s₃ => wpAny (model X.prog X.w) X.A (letTemporaryGo value (.ref a) r >>= fun _ => pure r) (EP X pins σ Q) X.xe s₃) X.xe s := by
    rw [hs]
    exact wpAny_operating (wpAny_mono h₂ (fun r s₃ h₃ => wpAny_bind (wpAny_letTemporaryGo (wpAny_pure h₃))) fun _ _ x => x)
  first
    | exact wpAny_pure (wpAny_bind fin)
    | exact wpAny_bind (wpAny_pure (wpAny_bind fin))
    | exact wpAny_bind fin
theorem getK_of {kvs : List (Key × D)} {a : Addr} {k : Key} (hs : RSt K H μ st) (r : RO K H μ (.dic kvs) a) (h : Aft K E μ H (getK kvs k st) (KD K Q)) : ∃ v, DGet H a (kV k) (some v) ∧ Q v H := by
  unfold getK at h
  split at h
  · rename_i d e
    obtain ⟨ws, h1, h3, h2⟩ := r
    obtain ⟨v, q1, q2⟩ := dvl_of h3 h2 e
    exact ⟨v, by rw [← q1]; exact DGet.k h1, h.val hs q2⟩
  · exact h.none.elim
theorem ix_of (hs : RSt K H μ st) (rx : RD K H μ x v) (ry : RD K H μ y w) (h : Aft K E μ H (ixop x y st) (KD K Q)) : rIx K v w H Q ∨ rIxD v w H Q := by
  unfold ixop at h
  split at h
  · obtain ⟨c, h⟩ := h.ite
    split at h
    · rename_i e
      refine .inl (.inr (.inr ⟨_, _, _, rx, ry, by rw [← line_eq]; exact c, ?_, h.val hs rfl⟩))
      exact e
    · exact h.none.elim
  · split at h
    · rename_i e
      obtain ⟨a, vs, rfl, h1, h2⟩ := rx
      obtain ⟨u, e2, r2⟩ := atI_of h2 e
      exact .inl (.inr (.inl ⟨a, vs, _, u, rfl, ry, h1, e2, h.val hs r2⟩))
    · exact h.none.elim
  · split at h
    · rename_i e
      obtain ⟨a, vs, rfl, h1, h2⟩ := rx
      obtain ⟨u, e2, r2⟩ := atI_of h2 e
      exact .inl (.inl ⟨a, vs, _, u, rfl, ry, h1.sq, e2, h.val hs r2⟩)
    · exact h.none.elim
  · split at h
    · rename_i e0
      split at h
      · rename_i e
        obtain ⟨a, rfl, ha⟩ := rx
        obtain ⟨a', ha', vs, h1, h2⟩ := hs.get e0
        rw [ha] at ha'; cases ha'
        obtain ⟨u, e2, r2⟩ := atI_of h2 e
        exact .inl (.inl ⟨a, vs, _, u, rfl, ry, .of h1, e2, h.val hs r2⟩)
      · exact h.none.elim
    · rename_i e0
      obtain ⟨a, rfl, ha⟩ := rx
      obtain ⟨a', ha', ro⟩ := hs.get e0
      rw [ha] at ha'; cases ha'
      obtain ⟨v, g, q⟩ := getK_of hs ro h
      exact .inr ⟨a, v, rfl, by rw [show w = _ from ry]; exact g, q⟩
    · exact h.none.elim
  · split at h
    · rename_i e0
      obtain ⟨a, rfl, ha⟩ := rx
      obtain ⟨a', ha', ro⟩ := hs.get e0
      rw [ha] at ha'; cases ha'
      obtain ⟨v, g, q⟩ := getK_of hs ro h
      exact .inr ⟨a, v, rfl, by rw [show w = _ from ry]; exact g, q⟩
    · exact h.none.elim
  · exact h.none.elim

/-! ### the sum of a tuple -/
def rSumT (K : PySem.W.Frag) : List V → Hp → VK → Prop := fun vs H Q => ∃ (a : Addr) (ns : List Int), vs = [V.ref a] ∧ SqT K H a (ns.map V.int) ∧ Q (.int ns.sum) H
theorem preSum_take (is : List Int) : ∀ n, n ≤ is.length → preSum (fun i => is.getD i 0) n = (is.take n).sum
  | 0, _ => by simp [preSum]
  | n + 1, h => by
    unfold preSum
    rw [preSum_take is n (by omega), List.take_succ, List.getElem?_eq_getElem (by omega), List.sum_append]
    simp [List.getD_eq_getElem?_getD, List.getElem?_eq_getElem (show n < is.length by omega)]
theorem ints_get {ns : List Int} {its : List Value} (r : Vals (ns.map V.int) its) {i : Nat} {u : Value} (h : its[i]? = some u) : ∃ t, u = .int (ns.getD i 0) t := by
  have hl := r.length
  rw [List.length_map] at hl
  have hi := (List.getElem?_eq_some_iff.mp h).1
  obtain ⟨w, e, q⟩ := r.get (i := i) (x := V.int (ns[i]'(by omega))) (by rw [List.getElem?_map, List.getElem?_eq_getElem (by omega)]; rfl)
  rw [h] at e; cases e
  rw [List.getD_eq_getElem?_getD, List.getElem?_eq_getElem (by omega)]
  exact q
theorem cr_sumT {X : Cx} (hc : X.calm = true) : CallR X (.builtin "sum") (rSumT X.K) := by
  intro pins s σ H vs us Q I r h
  obtain ⟨a, ns, rfl, hs, q⟩ := h
  obtain ⟨its, rv, hl, _⟩ := I.tuple hs
  rw [Vals.ref1 r]
  have hT : s.heap.IsTuple a its.toArray := hl
  have hlt : a < s.heap.objs.size := let ⟨_, e, _⟩ := hT; Heap.lt_size e
  refine call_sum_walkG (wpAny_pyIter_tuple hT ⟨s.heap.objs.size, _, _, _, _, _, fun i => ns.getD i 0, rfl, PySem.Walks.tuple (A := X.A.in1) (I.ok.hd hc) _ a (Nat.ne_of_lt hlt) its.toArray, ⟨⟨_, Heap.get?_push_size _ rfl, rfl, rfl⟩, hT.push _⟩, fun b hb => ?_, fun i v hv => ?_, fun h' tk t' hk => ?_⟩)
  · rw [Heap.size_push]
    rcases List.mem_cons.mp hb with e | e
    · rw [e]; exact Nat.lt_succ_self _
    · rw [List.mem_singleton.mp e]; exact Nat.lt_succ_of_lt hlt
  · exact ints_get rv (by simpa using hv)
  · have hl2 := rv.length
    rw [List.length_map] at hl2
    refine ⟨.int ns.sum, H, I.kept fun b o e => hk b o (fun z => ?_) (Heap.get?_push_of_some _ e), ⟨t', ?_⟩, q⟩
    · rw [List.mem_singleton.mp z] at e
      exact Nat.lt_irrefl _ (Heap.lt_size e)
    · rw [List.size_toArray, ← hl2, preSum_take ns ns.length (Nat.le_refl _), List.take_length]
/-! ### calls of built-ins -/
theorem len_of (hs : RSt K H μ st) (r : RD K H μ x v) (h : Aft K E μ H (biLen x st) (KD K Q)) : (∃ n, LenV K v H n ∧ Q (.int n) H) ∨ ∃ a kvs, v = V.ref a ∧ H a = some (.dK kvs) ∧ Q (.int kvs.length) H := by
  unfold biLen at h
  split at h
  · obtain ⟨c, h⟩ := h.ite
    rw [show v = _ from r]
    exact .inl ⟨_, ⟨by rw [← line_eq]; exact c, rfl⟩, h.val hs rfl⟩
  · obtain ⟨a, vs, rfl, h1, h2⟩ := r
    exact .inl ⟨_, .inr ⟨vs, h1, rfl⟩, by rw [h2.length]; exact h.val hs rfl⟩
  · obtain ⟨a, vs, rfl, h1, h2⟩ := r
    exact .inl ⟨_, .inl ⟨vs, h1.sq, rfl⟩, by rw [h2.length]; exact h.val hs rfl⟩
  · split at h
    · rename_i e
      obtain ⟨a, rfl, ha⟩ := r
      obtain ⟨a', ha', vs, h1, h2⟩ := hs.get e
      rw [ha] at ha'; cases ha'
      exact .inl ⟨_, .inl ⟨vs, .of h1, rfl⟩, by rw [h2.length]; exact h.val hs rfl⟩
    · rename_i e
      obtain ⟨a, rfl, ha⟩ := r
      obtain ⟨a', ha', ws, h1, h3, h2⟩ := hs.get e
      rw [ha] at ha'; cases ha'
      have hl := congrArg List.length h3
      rw [List.length_map, List.length_map] at hl
      exact .inr ⟨a, ws, rfl, h1, by rw [← hl]; exact h.val hs rfl⟩
    · exact h.none.elim
  · exact h.none.elim
/-- a list or a tuple, by values -/
def Sq (K : PySem.W.Frag) (H : Hp) (v : V) (vs : List V) : Prop := ∃ p, v = .ref p ∧ (SqL K H p vs ∨ SqT K H p vs)
/-- a built-in of ours, by values -/
def rBi (K : PySem.W.Frag) : Bi → List V → Hp → VK → Prop
  | .len => fun xs H Q => (∃ x n, xs = [x] ∧ LenV K x H n ∧ Q (.int n) H) ∨ ∃ a kvs, xs = [V.ref a] ∧ H a = some (.dK kvs) ∧ Q (.int kvs.length) H
  | .abs => fun xs H Q => ∃ i, xs = [.int i] ∧ Q (.int (if i < 0 then -i else i)) H
  | .int => fun xs H Q => ((∃ i, xs = [.int i] ∧ Q (.int i) H) ∨ ∃ k, xs = [.bl k] ∧ Q (.int (if k then 1 else 0)) H) ∨ ∃ a n, xs = [.str a] ∧ PySem.intText? a = some n ∧ a.length ≤ 640 ∧ Q (.int n) H
  | .tuple => fun xs H Q => ∃ p ys, xs = [.ref p] ∧ ((SqL K H p ys ∧ ∀ l, H l = none → Q (.ref l) (upd H l (.tup ys))) ∨ (SqT K H p ys ∧ Q (.ref p) H))
  | .list => fun xs H Q => ∃ p ys, xs = [.ref p] ∧ (SqL K H p ys ∨ SqT K H p ys) ∧ ∀ l, H l = none → Q (.ref l) (upd H l (.lst ys))
  | .min => fun xs H Q => ∃ i j, xs = [.int i, .int j] ∧ Q (.int (if j < i then j else i)) H
  | .max => fun xs H Q => ∃ i j, xs = [.int i, .int j] ∧ Q (.int (if j > i then j else i)) H
  | .gcd => rGcd
  | .sum => fun vs H Q => rSum K vs H Q ∨ rSumT K vs H Q
  | .sorted => rSortedI K
  | .str => fun xs H Q => (∃ i : Int, xs = [.int i] ∧ i.natAbs.log2 < 1920 ∧ Q (.str (toString i)) H) ∨ ∃ a, xs = [.str a] ∧ Q (.str a) H
/-- the built-in itself -/
def biV : Bi → Value
  | .len => .builtin "len"
  | .abs => .builtin "abs"
  | .int => .type "int"
  | .tuple => .type "tuple"
  | .list => .type "list"
  | .min => .builtin "min"
  | .max => .builtin "max"
  | .gcd => .builtin "math.gcd"
  | .sum => .builtin "sum"
  | .sorted => .builtin "sorted"
  | .str => .type "str"
theorem rBi_ok {X : Cx} (hc : X.calm = true) (p : Bi) : CallR X (biV p) (rBi X.K p) := by
  cases p with
  | len => exact call_len.or call_lenD
  | abs => exact call_abs
  | int => exact call_int1.or call_int_str
  | tuple => exact call_tuple_of
  | list => exact call_list_of
  | min => exact call_min2 hc
  | max => exact call_max2 hc
  | gcd => exact cr_gcd
  | sum => exact (cr_sum hc).or (cr_sumT hc)
  | sorted => exact cr_sortedI
  | str => exact call_str_int.or SkE.call_str_str
theorem intsD_of : ∀ {ds : List D} {vs : List V} {is : List Int}, RDs K H μ ds vs → intsD ds = some is → vs = is.map V.int
  | [], _, _, r, h => by cases h; exact r
  | .int i :: ds, _, _, ⟨v, r, rfl, r1, r2⟩, h => by
    unfold intsD at h
    obtain ⟨is', e, rfl⟩ := Option.map_eq_some_iff.mp h
    rw [intsD_of r2 e, show v = V.int i from r1]; rfl
  | .non :: _, _, _, _, h => by cases h
  | .bl _ :: _, _, _, _, h => by cases h
  | .str _ :: _, _, _, _, h => by cases h
  | .tup _ :: _, _, _, _, h => by cases h
  | .loc _ :: _, _, _, _, h => by cases h
  | .rol _ :: _, _, _, _, h => by cases h
theorem two_of {f : Int → Int → Int} (hs : RSt K H μ st) (r : RD K H μ x v) (r2 : RD K H μ y w) (h : Aft K E μ H (biInts f x y st) (KD K Q)) : ∃ i j, v = .int i ∧ w = .int j ∧ Q (.int (f i j)) H := by
  unfold biInts at h
  split at h
  · exact ⟨_, _, r, r2, h.val hs rfl⟩
  · exact h.none.elim
theorem sortI_unique {ns is : List Int} (h1 : ns.Perm is) (h2 : ns.Pairwise (· ≤ ·)) : ns = sortI is := by
  have p : (sortI is).Perm is := List.mergeSort_perm _ _
  have q : (sortI is).Pairwise (· ≤ ·) := by
    have := List.pairwise_mergeSort (le := fun a b : Int => decide (a ≤ b)) (fun a b c x y => by simp at x y ⊢; omega) (fun a b => by simp; omega) is
    exact this.imp fun h => by simpa using h
  exact List.Perm.eq_of_pairwise (fun a b _ _ x y => Int.le_antisymm x y) h2 q (h1.trans p.symm)
theorem intsP_rd : ∀ ys : List Int, RDs K H μ (ys.map D.int) (ys.map V.int)
  | [] => rfl
  | y :: ys => .cons rfl (intsP_rd ys)
theorem rBi_of {p : Bi} {ds : List D} {vs : List V} (hs : RSt K H μ st) (r : RDs K H μ ds vs) (h : Aft K E μ H (biop p ds st) (KD K Q)) : rBi K p vs H Q := by
  unfold biop at h
  split at h
  · obtain ⟨v, _, rfl, r1, rfl⟩ := r
    rcases len_of hs r1 h with ⟨n, a, b⟩ | ⟨a, kvs, rfl, b1, b2⟩
    · exact .inl ⟨_, n, rfl, a, b⟩
    · exact .inr ⟨a, kvs, rfl, b1, b2⟩
  · obtain ⟨v, _, rfl, r1, rfl⟩ := r
    unfold biAbs at h
    split at h
    · exact ⟨_, by rw [show v = _ from r1], h.val hs rfl⟩
    · exact h.none.elim
  · obtain ⟨v, _, rfl, r1, rfl⟩ := r
    unfold biInt at h
    split at h
    · exact .inl (.inl ⟨_, by rw [show v = _ from r1], h.val hs rfl⟩)
    · exact .inl (.inr ⟨_, by rw [show v = _ from r1], h.val hs rfl⟩)
    · obtain ⟨c, h⟩ := h.ite
      split at h
      · rename_i e
        exact .inr ⟨_, _, by rw [show v = _ from r1], e, c, h.val hs rfl⟩
      · exact h.none.elim
    · exact h.none.elim
  · obtain ⟨v, _, rfl, r1, rfl⟩ := r
    unfold biTuple at h
    split at h
    · obtain ⟨a, vs, rfl, h1, h2⟩ := r1
      exact ⟨a, vs, rfl, .inr ⟨h1, h.val hs ⟨a, vs, rfl, h1, h2⟩⟩⟩
    · obtain ⟨a, vs, rfl, h1, h2⟩ := r1
      exact ⟨a, vs, rfl, .inl ⟨h1.sq, fun l hl => h.ok (Ext.newO hl) (hs.new hl) _ ⟨l, vs, rfl, .of upd_same, h2.mono (Mono.new hl) (List.prefix_refl _)⟩⟩⟩
    · split at h
      · rename_i e
        obtain ⟨a, rfl, ha⟩ := r1
        obtain ⟨a', ha', vs, h1, h2⟩ := hs.get e
        rw [ha] at ha'; cases ha'
        exact ⟨a, vs, rfl, .inl ⟨.of h1, fun l hl => h.ok (Ext.newO hl) (hs.new hl) _ ⟨l, vs, rfl, .of upd_same, h2.mono (Mono.new hl) (List.prefix_refl _)⟩⟩⟩
      · exact h.none.elim
    · exact h.none.elim
  · obtain ⟨v, _, rfl, r1, rfl⟩ := r
    have new : ∀ {ds : List D} {vs : List V} {l : Addr}, RDs K H μ ds vs → H l = none → Aft K E μ H (alloc (.lst ds) st) (KD K Q) → Q (.ref l) (upd H l (.lst vs)) := fun {ds vs l} h2 hl h =>
      h.ok (Ext.push hl) (hs.push hl h2) _ ⟨l, rfl, by rw [← hs.len]; simp⟩
    unfold biList at h
    split at h
    · obtain ⟨a, vs, rfl, h1, h2⟩ := r1
      exact ⟨a, vs, rfl, .inr h1, fun l hl => new h2 hl h⟩
    · obtain ⟨a, vs, rfl, h1, h2⟩ := r1
      exact ⟨a, vs, rfl, .inl h1.sq, fun l hl => new h2 hl h⟩
    · split at h
      · rename_i e
        obtain ⟨a, rfl, ha⟩ := r1
        obtain ⟨a', ha', vs, h1, h2⟩ := hs.get e
        rw [ha] at ha'; cases ha'
        exact ⟨a, vs, rfl, .inl (.of h1), fun l hl => new h2 hl h⟩
      · exact h.none.elim
    · exact h.none.elim
  · obtain ⟨v, _, rfl, r1, rfl⟩ := r
    unfold biSum at h
    split at h
    · split at h
      · rename_i e
        split at h
        · rename_i is e2
          obtain ⟨a, rfl, ha⟩ := r1
          obtain ⟨a', ha', vs, h1, h2⟩ := hs.get e
          rw [ha] at ha'; cases ha'
          refine .inl ⟨a, is, rfl, ?_, h.val hs rfl⟩
          rw [← intsD_of h2 e2]
          exact .of h1
        · exact h.none.elim
      · exact h.none.elim
    · split at h
      · rename_i is e2
        obtain ⟨a, vs, rfl, h1, h2⟩ := r1
        refine .inr ⟨a, is, rfl, ?_, h.val hs rfl⟩
        rw [← intsD_of h2 e2]
        exact h1
      · exact h.none.elim
    · exact h.none.elim
  · obtain ⟨v, _, rfl, r1, rfl⟩ := r
    unfold biStr at h
    split at h
    · obtain ⟨c, h⟩ := h.ite
      exact .inl ⟨_, by rw [show v = _ from r1], c, h.val hs rfl⟩
    · exact .inr ⟨_, by rw [show v = _ from r1], h.val hs rfl⟩
    · exact h.none.elim
  · obtain ⟨v, _, rfl, r1, rfl⟩ := r
    unfold biSorted at h
    have new : ∀ {is ns : List Int} {l : Addr}, ns.Perm is → ns.Pairwise (· ≤ ·) → H l = none → Aft K E μ H (alloc (.lst ((sortI is).map D.int)) st) (KD K Q) → Q (.ref l) (upd H l (.lst (ns.map V.int))) := fun {is ns l} h1 h2 hl h => by
      rw [sortI_unique h1 h2]
      exact h.ok (Ext.push hl) (hs.push hl (intsP_rd _)) _ ⟨l, rfl, by rw [← hs.len]; simp⟩
    split at h
    · split at h
      · rename_i is e2
        obtain ⟨a, vs, rfl, h1, h2⟩ := r1
        refine ⟨a, is, rfl, ?_, fun ns p h3 h4 hp => new h3 h4 hp h⟩
        rw [← intsD_of h2 e2]
        exact h1.sq
      · exact h.none.elim
    · split at h
      · rename_i e
        split at h
        · rename_i is e2
          obtain ⟨a, rfl, ha⟩ := r1
          obtain ⟨a', ha', vs, h1, h2⟩ := hs.get e
          rw [ha] at ha'; cases ha'
          refine ⟨a, is, rfl, ?_, fun ns p h3 h4 hp => new h3 h4 hp h⟩
          rw [← intsD_of h2 e2]
          exact .of h1
        · exact h.none.elim
      · exact h.none.elim
    · exact h.none.elim
  · obtain ⟨v, _, rfl, r1, w, _, rfl, r2, rfl⟩ := r
    obtain ⟨i, j, rfl, rfl, q⟩ := two_of hs r1 r2 h
    exact ⟨i, j, rfl, q⟩
  · obtain ⟨v, _, rfl, r1, w, _, rfl, r2, rfl⟩ := r
    obtain ⟨i, j, rfl, rfl, q⟩ := two_of hs r1 r2 h
    exact ⟨i, j, rfl, q⟩
  · obtain ⟨v, _, rfl, r1, w, _, rfl, r2, rfl⟩ := r
    obtain ⟨i, j, rfl, rfl, q⟩ := two_of hs r1 r2 h
    exact ⟨i, j, rfl, q⟩
  · exact h.none.elim

/-! ### methods of lists -/
def rMt (K : PySem.W.Frag) : Mt → V → List V → Hp → VK → Prop
  | .append => rAppend
  | .pop => rPop
  | .reverse => rReverse
  | .extend => rExtend
  | .popAt => rPopAt
  | .startswith => fun x xs H Q => ∃ a b, x = .str a ∧ xs = [.str b] ∧ Q (.bl (Txt.startswith a b)) H
  | .endswith => fun x xs H Q => ∃ a b, x = .str a ∧ xs = [.str b] ∧ Q (.bl (Txt.endswith a b)) H
  | .lstrip => fun x xs H Q => ∃ a b, x = .str a ∧ xs = [.str b] ∧ a.length ≤ sizeLine ∧ Q (.str (Txt.lstripChars a b)) H
  | .index => fun x xs H Q => ∃ a b i rest, x = .str a ∧ xs = [.str b] ∧ Builtin.Str.occurrences a b 0 a.length 1 = i :: rest ∧ Q (.int (i : Nat)) H
  | .find => fun x xs H Q => ∃ a b, x = .str a ∧ xs = [.str b] ∧ Q (.int (Txt.find a b)) H
  | .isdigit => fun x xs H Q => ∃ a, x = .str a ∧ xs = [] ∧ True ∧ Q (.bl (Txt.isdigit a)) H
  | .split => fun x xs H Q => ∃ a b, x = .str a ∧ xs = [.str b] ∧ (b.length == 0) = false ∧ a.length + 2 ≤ sizeLine ∧ rNewStrs (Txt.split a b) H Q
  | .join => fun x xs H Q => ∃ a p, ∃ ys : List Str, x = .str a ∧ xs = [.ref p] ∧ (SqL K H p (ys.map V.str) ∨ SqT K H p (ys.map V.str)) ∧
    (ys.map (·.length)).sum + ys.length * a.length ≤ 16777216 ∧ Q (.str (Txt.join a ys)) H
def mtId : Mt → String
  | .append => "list.append"
  | .pop => "list.pop"
  | .reverse => "list.reverse"
  | .extend => "list.extend"
  | .popAt => "list.pop"
  | .startswith => "str.startswith"
  | .endswith => "str.endswith"
  | .lstrip => "str.lstrip"
  | .index => "str.index"
  | .find => "str.find"
  | .isdigit => "str.isdigit"
  | .split => "str.split"
  | .join => "str.join"
theorem rMt_ok {X : Cx} (m : Mt) : MtR X (mtId m) (rMt X.K m) := by
  cases m with
  | append => exact mt_append
  | pop => exact mt_pop
  | reverse => exact mt_reverse
  | extend => exact mt_extend
  | popAt => exact mt_popAt
  | startswith => exact mt_startswith
  | endswith => exact mt_endswith
  | lstrip => exact mt_lstripChars
  | index => exact mt_sindex
  | find => exact mt_find
  | isdigit => exact mt_isdigit
  | split => exact mt_split
  | join => exact mt_join
theorem lst_of {f : Nat → List D → R D} {k : D → Sto → List Addr → Hp → Prop} (hs : RSt K H μ st) (r : RD K H μ x v) (h : Aft K E μ H (lstOp x st f) k) :
    ∃ n ds a vs, x = .loc n ∧ st[n]? = some (.lst ds) ∧ v = .ref a ∧ μ[n]? = some a ∧ H a = some (.lst vs) ∧ RDs K H μ ds vs ∧ Aft K E μ H (f n ds) k := by
  unfold lstOp at h
  split at h
  · split at h
    · rename_i e
      obtain ⟨a, rfl, ha⟩ := r
      obtain ⟨a', ha', vs, h1, h2⟩ := hs.get e
      rw [ha] at ha'; cases ha'
      exact ⟨_, _, a, vs, rfl, e, rfl, ha, h1, h2, h⟩
    · exact h.none.elim
  · exact h.none.elim
theorem strs_rd : ∀ ys : List Str, RDs K H μ (ys.map D.str) (ys.map V.str)
  | [] => rfl
  | y :: ys => .cons rfl (strs_rd ys)
theorem strsD_of : ∀ {ds : List D} {vs : List V} {ys : List Str}, RDs K H μ ds vs → strsD ds = some ys → vs = ys.map V.str
  | [], _, _, r, h => by cases h; exact r
  | .str i :: ds, _, _, ⟨v, r, rfl, r1, r2⟩, h => by
    unfold strsD at h
    obtain ⟨is', e, rfl⟩ := Option.map_eq_some_iff.mp h
    rw [strsD_of r2 e, show v = V.str i from r1]; rfl
  | .non :: _, _, _, _, h => by cases h
  | .bl _ :: _, _, _, _, h => by cases h
  | .int _ :: _, _, _, _, h => by cases h
  | .tup _ :: _, _, _, _, h => by cases h
  | .loc _ :: _, _, _, _, h => by cases h
  | .rol _ :: _, _, _, _, h => by cases h
theorem join_of {a : Str} {ds : List D} {vs : List V} (hs : RSt K H μ st) (r : RDs K H μ ds vs) (h : Aft K E μ H (joinL a ds st) (KD K Q)) :
    ∃ ys : List Str, vs = ys.map V.str ∧ (ys.map (·.length)).sum + ys.length * a.length ≤ 16777216 ∧ Q (.str (Txt.join a ys)) H := by
  unfold joinL at h
  split at h
  · rename_i ys e
    obtain ⟨c, h⟩ := h.ite
    exact ⟨ys, strsD_of r e, c, h.val hs rfl⟩
  · exact h.none.elim
theorem seqIx_of {n : Nat} {i : Int} {k : Nat} (h : ixN n i = some k) : seqIndex? i n = some k := by
  unfold ixN at h
  unfold seqIndex?
  by_cases c : 0 ≤ i
  · rw [if_pos c] at h
    by_cases d : i < n
    · rw [if_pos d] at h
      cases h
      have c' : ¬ i < 0 := by omega
      simp [c', c, d]
    · rw [if_neg d] at h; cases h
  · rw [if_neg c] at h
    by_cases d : -(n : Int) ≤ i
    · rw [if_pos d] at h
      cases h
      have c' : i < 0 := by omega
      have d1 : 0 ≤ i + n := by omega
      have d2 : i + n < n := by omega
      simp [c', d1, d2]
    · rw [if_neg d] at h; cases h
theorem rMt_of {m : Mt} {ds : List D} {vs : List V} (hs : RSt K H μ st) (r : RD K H μ x v) (rs : RDs K H μ ds vs) (h : Aft K E μ H (mtop m x ds st) (KD K Q)) : rMt K m v vs H Q := by
  unfold mtop at h
  split at h
  · obtain ⟨w, _, rfl, r1, rfl⟩ := rs
    obtain ⟨n, ds, a, vs, rfl, e, rfl, ha, h1, h2, h⟩ := lst_of hs r h
    obtain ⟨c, h⟩ := h.ite
    exact ⟨a, vs, w, rfl, rfl, h1, by rw [h2.length, ← line_eq]; exact c, h.ok (Ext.setl ha h1) (hs.setl ha h1 (h2.append (.one r1))) _ rfl⟩
  · obtain rfl : vs = [] := rs
    obtain ⟨n, ds, a, vs, rfl, e, rfl, ha, h1, h2, h⟩ := lst_of hs r h
    split at h
    · rename_i e2
      obtain ⟨u, e3, r3⟩ := h2.get e2
      exact ⟨a, vs, u, rfl, rfl, h1, by rw [h2.length]; exact e3, h.ok (Ext.setl ha h1) (hs.setl ha h1 h2.dropLast) _ (r3.mono (mono_setl h1) (List.prefix_refl _))⟩
    · exact h.none.elim
  · obtain rfl : vs = [] := rs
    obtain ⟨n, ds, a, vs, rfl, e, rfl, ha, h1, h2, h⟩ := lst_of hs r h
    exact ⟨a, vs, rfl, rfl, h1, h.ok (Ext.setl ha h1) (hs.setl ha h1 h2.reverse) _ rfl⟩
  · obtain ⟨w, _, rfl, r1, rfl⟩ := rs
    obtain ⟨n, ds, a, vs, rfl, e, rfl, ha, h1, h2, h⟩ := lst_of hs r h
    obtain ⟨⟨c1, c2⟩, h⟩ := h.ite
    split at h
    · rename_i k ek
      split at h
      · rename_i d e2
        obtain ⟨u, e3, r3⟩ := h2.get e2
        exact ⟨a, vs, _, k, u, rfl, by rw [show w = _ from r1], h1, by omega, by omega, by rw [h2.length]; exact seqIx_of ek, e3, h.ok (Ext.setl ha h1) (hs.setl ha h1 (h2.erase k)) _ (r3.mono (mono_setl h1) (List.prefix_refl _))⟩
      · exact h.none.elim
    · exact h.none.elim
  · obtain ⟨w, _, rfl, r1, rfl⟩ := rs
    obtain ⟨n, ds, a, vs, rfl, e, rfl, ha, h1, h2, h⟩ := lst_of hs r h
    split at h
    · rename_i e2
      obtain ⟨c, h⟩ := h.ite
      obtain ⟨b, rfl, hb⟩ := r1
      obtain ⟨b', hb', us, h3, h4⟩ := hs.get e2
      rw [hb] at hb'; cases hb'
      exact ⟨a, b, vs, us, rfl, rfl, h1, h3, by rw [h2.length, h4.length, ← line_eq]; exact c, h.ok (Ext.setl ha h1) (hs.setl ha h1 (h2.append h4)) _ rfl⟩
    · exact h.none.elim
  · obtain ⟨w, _, rfl, r1, rfl⟩ := rs
    exact ⟨_, _, r, by rw [show w = _ from r1], h.val hs rfl⟩
  · obtain ⟨w, _, rfl, r1, rfl⟩ := rs
    exact ⟨_, _, r, by rw [show w = _ from r1], h.val hs rfl⟩
  · obtain ⟨w, _, rfl, r1, rfl⟩ := rs
    obtain ⟨c, h⟩ := h.ite
    exact ⟨_, _, r, by rw [show w = _ from r1], by rw [← line_eq]; exact c, h.val hs rfl⟩
  · obtain ⟨w, _, rfl, r1, rfl⟩ := rs
    split at h
    · rename_i e
      exact ⟨_, _, _, _, r, by rw [show w = _ from r1], e, h.val hs rfl⟩
    · exact h.none.elim
  · obtain ⟨w, _, rfl, r1, rfl⟩ := rs
    exact ⟨_, _, r, by rw [show w = _ from r1], h.val hs rfl⟩
  · obtain rfl : vs = [] := rs
    exact ⟨_, r, rfl, trivial, h.val hs rfl⟩
  · obtain ⟨w, _, rfl, r1, rfl⟩ := rs
    obtain ⟨⟨c1, c2⟩, h⟩ := h.ite
    refine ⟨_, _, r, by rw [show w = _ from r1], c1, by rw [← line_eq]; exact c2, fun p hp => ?_⟩
    exact h.ok (Ext.push hp) (hs.push hp (strs_rd _)) _ ⟨p, rfl, by rw [← hs.len]; simp⟩
  · obtain ⟨w, _, rfl, r1, rfl⟩ := rs
    unfold joinD at h
    split at h
    · obtain ⟨a, vs, rfl, h1, h2⟩ := r1
      obtain ⟨ys, rfl, hz, h⟩ := join_of hs h2 h
      exact ⟨_, a, ys, r, rfl, .inr h1, hz, h⟩
    · obtain ⟨a, vs, rfl, h1, h2⟩ := r1
      obtain ⟨ys, rfl, hz, h⟩ := join_of hs h2 h
      exact ⟨_, a, ys, r, rfl, .inl h1.sq, hz, h⟩
    · split at h
      · rename_i e
        obtain ⟨a, rfl, ha⟩ := r1
        obtain ⟨a', ha', vs, h1, h2⟩ := hs.get e
        rw [ha] at ha'; cases ha'
        obtain ⟨ys, rfl, hz, h⟩ := join_of hs h2 h
        exact ⟨_, a, ys, r, rfl, .inl (.of h1), hz, h⟩
      · exact h.none.elim
    · exact h.none.elim
  · exact h.none.elim

/-! ### isinstance -/
def tyS : Ty → String
  | .int => "int"
  | .bool => "bool"
  | .str => "str"
  | .tuple => "tuple"
  | .list => "list"
theorem isi_of {t : Ty} {Q : VK} (hs : RSt K H μ st) (r : RD K H μ x v) (h : Aft K E μ H (isop t x st) (KD K Q)) : ∃ (s : String) (b : Bool), TyX K H v (.type s) ∧ kitB s (tyS t) = some b ∧ Q (.bl b) H := by
  unfold isop at h
  split at h
  · rename_i b e
    have q : Q (.bl b) H := h.val hs rfl
    cases x with
    | non =>
      rw [show v = _ from r]
      refine ⟨"NoneType", b, .base .non, ?_, q⟩
      cases t <;> (cases e; decide +kernel)
    | bl z =>
      rw [show v = _ from r]
      refine ⟨"bool", b, .base (.bl z), ?_, q⟩
      cases t <;> (cases e; decide +kernel)
    | int z =>
      rw [show v = _ from r]
      refine ⟨"int", b, .base (.int z), ?_, q⟩
      cases t <;> (cases e; decide +kernel)
    | str z =>
      rw [show v = _ from r]
      refine ⟨"str", b, .base (.str z), ?_, q⟩
      cases t <;> (cases e; decide +kernel)
    | tup z =>
      obtain ⟨a, vs, rfl, h1, _⟩ := r
      refine ⟨"tuple", b, ?_, ?_, q⟩
      · rcases h1 with (h1 | ⟨o, h1⟩) | ⟨o, its, n, h1, h2, _⟩
        · exact .base (.tup h1)
        · exact .fTuple h1
        · exact .kTuple h1 h2
      · cases t <;> (cases e; decide +kernel)
    | rol z =>
      obtain ⟨a, vs, rfl, h1, _⟩ := r
      refine ⟨"list", b, ?_, ?_, q⟩
      · rcases h1 with ⟨o, h1⟩ | ⟨o, its, n, h1, h2, _⟩
        · exact .base (.frz h1)
        · exact .kList h1 h2
      · cases t <;> first | (cases e; done) | (cases e; decide +kernel)
    | loc z =>
      obtain ⟨a, rfl, ha⟩ := r
      have e' : ∃ ds, st[z]? = some (.lst ds) ∧ t = .list ∧ b = true := by
        cases t <;> first
          | (cases e; done)
          | (have e2 : (match st[z]? with | some (.lst _) => some true | _ => none) = some b := e
             split at e2
             · rename_i ds e3
               exact ⟨ds, e3, rfl, (Option.some.inj e2).symm⟩
             · cases e2)
      obtain ⟨ds, e3, rfl, rfl⟩ := e'
      obtain ⟨a', ha', vs, h1, h2⟩ := hs.get e3
      rw [ha] at ha'; cases ha'
      exact ⟨"list", true, .base (.lst h1), by decide +kernel, q⟩
  · exact h.none.elim
end
end MP

set_option Elab.async false
set_option linter.all false
set_option maxRecDepth 100000
set_option maxHeartbeats 2000000
namespace MP
open PySem PySem.Spec PyProof.Rows L2
variable [Gb]

section
variable {K : PySem.W.Frag} {E : L2.St → XK} {μ μ' : List Addr} {H H' : Hp} {σ : L2.St} {env : Env} {st : Sto}

/-! ### reckonings that need a world -/
theorem rdE_in {m : Env → Sto → R D} {Q : VK} (hs : RSt K H μ st) (he : REnv K H μ env σ) (h : Aft K (E σ) μ H (m env st) (KD K Q)) : rdE K E m σ H Q := ⟨μ, env, st, hs, he, h⟩
/-- one reckoning behind another -/
theorem rdE_bnd {m : Env → Sto → R D} {k : D → Sto → List Addr → Hp → Prop} {f : D → Sto → R D} {Q : VK} (hs : RSt K H μ st) (he : REnv K H μ env σ) (h : Aft K (E σ) μ H (bnd (m env st) f) (KD K Q)) :
    rdE K E m σ H fun v H1 => ∃ μ1 st1 d, RSt K H1 μ1 st1 ∧ REnv K H1 μ1 env σ ∧ RD K H1 μ1 d v ∧ Aft K (E σ) μ1 H1 (f d st1) (KD K Q) ∧ Ext μ H μ1 H1 :=
  ⟨μ, env, st, hs, he, h.bnd.imp fun d st1 μ1 H1 x hs1 h1 v r => ⟨μ1, st1, d, hs1, he.mono x, r, h1, x⟩⟩
theorem one {m : Env → Sto → R D} {f : D → Sto → R D} {r : V → Hp → VK → Prop} {Q : VK} (of : ∀ {μ H st x v}, RSt K H μ st → RD K H μ x v → Aft K (E σ) μ H (f x st) (KD K Q) → r v H Q)
    (h : rdE K E (fun env st => bnd (m env st) f) σ H Q) : tUn r (rdE K E m) σ H Q := by
  obtain ⟨μ, env, st, hs, he, h⟩ := h
  refine ⟨μ, env, st, hs, he, h.bnd.imp fun d st1 μ1 H1 x hs1 h1 v rv => ?_⟩
  exact of hs1 rv h1
theorem two {ma mb : Env → Sto → R D} {f : D → D → Sto → R D} {r : R2} {Q : VK} (of : ∀ {μ H st x y v w}, RSt K H μ st → RD K H μ x v → RD K H μ y w → Aft K (E σ) μ H (f x y st) (KD K Q) → r v w H Q)
    (h : rdE K E (fun env st => bnd (ma env st) fun x st => bnd (mb env st) fun y st => f x y st) σ H Q) : tOp r (rdE K E ma) (rdE K E mb) σ H Q := by
  obtain ⟨μ, env, st, hs, he, h⟩ := h
  refine ⟨μ, env, st, hs, he, h.bnd.imp fun d st1 μ1 H1 x hs1 h1 v rv => ?_⟩
  refine ⟨μ1, env, st1, hs1, he.mono x, h1.bnd.imp fun d2 st2 μ2 H2 x2 hs2 h2 w rw => ?_⟩
  exact of hs2 (rv.mono x2.mono x2.pre) rw h2
end
section
variable {X : Cx} {E : L2.St → XK} {e a b c : Expr} {pos : Pos} {ma mb mc : Env → Sto → R D}

theorem sE_var {i : Nat} {x : Str} (hN : X.N[i]? = some x) (hv : Vis X.env.scope x) (hd : (x == ("__debug__" : Str)) = false) (hcd : (x == ("__classdict__" : Str)) = false) :
    PE X (.Name x pos) (rdE X.K E fun σ st => match σ[i]? with
    | some (some d) => ok d st
    | _ => none) := imE (pe_var hN hv hd hcd) fun σ H Q ⟨μ, env, st, hs, he, h⟩ => by
  dsimp only at h
  split at h
  · rename_i d e
    obtain ⟨v, e1, r⟩ := he.at_ i d e
    exact ⟨v, e1, h.val hs r⟩
  · exact h.none.elim
theorem sE_lit {d : D} {v : V} (h : PE X e (tC v)) (r : ∀ H μ, RD X.K H μ d v) : PE X e (rdE X.K E fun _ st => ok d st) := imE h fun σ H Q ⟨μ, env, st, hs, he, h⟩ => h.val hs (r H μ)
theorem sE_bin {op : Operator} (ha : PE X a (rdE X.K E ma)) (hb : PE X b (rdE X.K E mb)) : PE X (.BinOp a op b pos) (rdE X.K E fun σ st => bnd (ma σ st) fun x st => bnd (mb σ st) fun y st => binop op x y st) :=
  imE (pe_op (rBin_ok op) ha hb) fun σ H Q h => two (fun hs rx ry h => rBin_of hs rx ry h) h
theorem sE_cmp {op : CmpOp} (hu : X.A.units + 64 < cLine) (hm : behindInMarks op b = false) (ha : PE X a (rdE X.K E ma)) (hb : PE X b (rdE X.K E mb)) : PE X (.Compare a [op] [b] pos) (rdE X.K E fun σ st => bnd (ma σ st) fun x st => bnd (mb σ st) fun y st => cmpop op x y st) :=
  imE (pe_cmpR (rCmp_ok hu op) ha hb hm) fun σ H Q h => two (fun hs rx ry h => rCmp_of hs rx ry h) h
theorem cmp_bl {K : PySem.W.Frag} {F : XK} {μ : List Addr} {H : Hp} {st : Sto} {op : CmpOp} {x y : D} {Q : Bool → Hp → Prop} (h : Aft K F μ H (cmpop op x y st) fun d _ _ H' => ∃ b, d = .bl b ∧ Q b H') : Aft K F μ H (cmpop op x y st) (KD K fun v H' => ∃ b, v = .bl b ∧ Q b H') :=
  h.imp fun d st' μ' H' _ _ ⟨b, e, q⟩ v r => by subst e; exact ⟨b, r, q⟩
/-- a test whose reckoning ends in a bool -/
theorem rdT_E {K : PySem.W.Frag} {m : Env → Sto → R D} {σ : L2.St} {H : Hp} {Q : Bool → Hp → Prop} (h : rdT K E m σ H Q) : rdE K E m σ H fun v H' => ∃ b, v = .bl b ∧ Q b H' := by
  obtain ⟨μ, env, st, hs, he, h⟩ := h
  exact ⟨μ, env, st, hs, he, h.imp fun d st' μ' H' _ _ ⟨b, e, q⟩ v r => by subst e; exact ⟨b, r, q⟩⟩
theorem sT_cmp {op : CmpOp} (hu : X.A.units + 64 < cLine) (hm : behindInMarks op b = false) (ha : PE X a (rdE X.K E ma)) (hb : PE X b (rdE X.K E mb)) : PT X (.Compare a [op] [b] pos) (rdT X.K E fun σ st => bnd (ma σ st) fun x st => bnd (mb σ st) fun y st => cmpop op x y st) :=
  imT (pt_cmpR (rCmp_ok hu op) ha hb hm) fun σ H Q h => two (fun hs rx ry h => rCmp_of hs rx ry h) (rdT_E h)
/-- chains -/
noncomputable def chainM (p q : CmpOp) (ma mb mc : Env → Sto → R D) : Env → Sto → R D := fun σ st => bnd (ma σ st) fun x st => bnd (mb σ st) fun y st => bnd (cmpop p x y st) fun z st => match z with
    | .bl true => bnd (mc σ st) fun w st => cmpop q y w st
    | .bl false => ok (.bl false) st
    | _ => none
theorem chain_of {K : PySem.W.Frag} {p q : CmpOp} {σ : L2.St} {H : Hp} {Q : VK} (h : rdE K E (chainM p q ma mb mc) σ H Q) : tChain (rCmp K p) (rCmp K q) (rdE K E ma) (rdE K E mb) (rdE K E mc) σ H Q := by
  obtain ⟨μ, env, st, hs, he, h⟩ := h
  refine ⟨μ, env, st, hs, he, h.bnd.imp fun d st1 μ1 H1 x hs1 h1 v rv => ?_⟩
  refine ⟨μ1, env, st1, hs1, he.mono x, h1.bnd.imp fun d2 st2 μ2 H2 x2 hs2 h2 w rw => ?_⟩
  have he2 := (he.mono x).mono x2
  refine rCmp_of hs2 (rv.mono x2.mono x2.pre) rw (h2.bnd.imp fun z st3 μ3 H3 x3 hs3 h3 u ru => ?_)
  split at h3
  · rw [show u = _ from ru]
    refine ⟨true, rfl, iteT ?_⟩
    refine ⟨μ3, env, st3, hs3, he2.mono x3, h3.bnd.imp fun d4 st4 μ4 H4 x4 hs4 h4 w4 r4 => ?_⟩
    exact rCmp_of hs4 (rw.mono (x3.mono.trans x4.mono) (x3.pre.trans x4.pre)) r4 h4
  · rw [show u = _ from ru]
    exact ⟨false, rfl, iteF (h3.val hs3 rfl)⟩
  · exact h3.none.elim
theorem sE_chain {p q : CmpOp} (hu : X.A.units + 64 < cLine) (hm : lastMarks [p, q] [b, c] = false) (ha : PE X a (rdE X.K E ma)) (hb : PE X b (rdE X.K E mb)) (hc : PE X c (rdE X.K E mc)) : PE X (.Compare a [p, q] [b, c] pos) (rdE X.K E (chainM p q ma mb mc)) :=
  imE (pe_chain (rCmp_ok hu p) (rCmp_ok hu q) ha hb hc hm) fun σ H Q h => chain_of h
theorem sT_chain {p q : CmpOp} (hu : X.A.units + 64 < cLine) (hm : lastMarks [p, q] [b, c] = false) (ha : PE X a (rdE X.K E ma)) (hb : PE X b (rdE X.K E mb)) (hc : PE X c (rdE X.K E mc)) : PT X (.Compare a [p, q] [b, c] pos) (rdT X.K E (chainM p q ma mb mc)) :=
  imT (pt_chain (rCmp_ok hu p) (rCmp_ok hu q) ha hb hc hm) fun σ H Q h => chain_of (rdT_E h)
/-- and, or, not -/
def andM (ma mb : Env → Sto → R D) : Env → Sto → R D := fun σ st => bnd (ma σ st) fun x st => match x with
    | .bl true => mb σ st
    | .bl false => ok (.bl false) st
    | _ => none
def orM (ma mb : Env → Sto → R D) : Env → Sto → R D := fun σ st => bnd (ma σ st) fun x st => match x with
    | .bl true => ok (.bl true) st
    | .bl false => mb σ st
    | _ => none
def notM (ma : Env → Sto → R D) : Env → Sto → R D := fun σ st => bnd (ma σ st) fun x st => match x with
    | .bl b => ok (.bl (!b)) st
    | _ => none
def iteM {α : Type} (mc : Env → Sto → R D) (ma mb : Env → Sto → R α) : Env → Sto → R α := fun σ st => bnd (mc σ st) fun x st => match x with
    | .bl true => ma σ st
    | .bl false => mb σ st
    | _ => none
variable {rest : List Expr}
theorem sE_and (ha : PE X a (rdE X.K E ma)) (hb : PE X (.BoolOp .And (b :: rest) pos) (rdE X.K E mb)) : PE X (.BoolOp .And (a :: b :: rest) pos) (rdE X.K E (andM ma mb)) :=
  imE (pe_and ha hb) fun σ H Q ⟨μ, env, st, hs, he, h⟩ => by
    refine ⟨μ, env, st, hs, he, h.bnd.imp fun d st1 μ1 H1 x hs1 h1 v rv => ?_⟩
    split at h1
    · exact ⟨true, rv, iteT (⟨μ1, env, st1, hs1, he.mono x, h1⟩)⟩
    · exact ⟨false, rv, iteF (h1.val hs1 rfl)⟩
    · exact h1.none.elim
theorem sE_or (ha : PE X a (rdE X.K E ma)) (hb : PE X (.BoolOp .Or (b :: rest) pos) (rdE X.K E mb)) : PE X (.BoolOp .Or (a :: b :: rest) pos) (rdE X.K E (orM ma mb)) :=
  imE (pe_or ha hb) fun σ H Q ⟨μ, env, st, hs, he, h⟩ => by
    refine ⟨μ, env, st, hs, he, h.bnd.imp fun d st1 μ1 H1 x hs1 h1 v rv => ?_⟩
    split at h1
    · exact ⟨true, rv, iteT (h1.val hs1 rfl)⟩
    · exact ⟨false, rv, iteF (⟨μ1, env, st1, hs1, he.mono x, h1⟩)⟩
    · exact h1.none.elim
theorem sE_not (ha : PE X a (rdE X.K E ma)) : PE X (.UnaryOp .Not a pos) (rdE X.K E (notM ma)) :=
  imE (pe_not ha) fun σ H Q ⟨μ, env, st, hs, he, h⟩ => by
    refine ⟨μ, env, st, hs, he, h.bnd.imp fun d st1 μ1 H1 x hs1 h1 v rv => ?_⟩
    split at h1
    · exact ⟨_, rv, h1.val hs1 rfl⟩
    · exact h1.none.elim
theorem bl_in {K : PySem.W.Frag} {F : XK} {μ : List Addr} {H : Hp} {st : Sto} {b : Bool} {Q : Bool → Hp → Prop} (hs : RSt K H μ st) (h : Aft K F μ H (some (.ok (D.bl b), st)) fun d _ _ H' => ∃ b, d = .bl b ∧ Q b H') : Q b H := by
  obtain ⟨b', e, q⟩ := h.ok (Ext.refl μ H) hs
  cases e; exact q
theorem sT_and (ha : PT X a (rdT X.K E ma)) (hb : PW X (.BoolOp .And (b :: rest) pos) (rdT X.K E mb)) : PW X (.BoolOp .And (a :: b :: rest) pos) (rdT X.K E (andM ma mb)) :=
  imW (pw_and ha hb) fun σ H Q ⟨μ, env, st, hs, he, h⟩ => by
    refine ⟨μ, env, st, hs, he, h.bnd.imp fun d st1 μ1 H1 x hs1 h1 => ?_⟩
    split at h1
    · exact ⟨true, rfl, iteT (⟨μ1, env, st1, hs1, he.mono x, h1⟩)⟩
    · exact ⟨false, rfl, iteF (bl_in hs1 h1)⟩
    · exact h1.none.elim
theorem sT_or (ha : PT X a (rdT X.K E ma)) (hb : PW X (.BoolOp .Or (b :: rest) pos) (rdT X.K E mb)) : PW X (.BoolOp .Or (a :: b :: rest) pos) (rdT X.K E (orM ma mb)) :=
  imW (pw_or ha hb) fun σ H Q ⟨μ, env, st, hs, he, h⟩ => by
    refine ⟨μ, env, st, hs, he, h.bnd.imp fun d st1 μ1 H1 x hs1 h1 => ?_⟩
    split at h1
    · exact ⟨true, rfl, iteT (bl_in hs1 h1)⟩
    · exact ⟨false, rfl, iteF (⟨μ1, env, st1, hs1, he.mono x, h1⟩)⟩
    · exact h1.none.elim
theorem sT_not (ha : PT X a (rdT X.K E ma)) : PT X (.UnaryOp .Not a pos) (rdT X.K E (notM ma)) :=
  imT (pt_not ha) fun σ H Q ⟨μ, env, st, hs, he, h⟩ => by
    refine ⟨μ, env, st, hs, he, h.bnd.imp fun d st1 μ1 H1 x hs1 h1 => ?_⟩
    split at h1
    · exact ⟨_, rfl, bl_in hs1 h1⟩
    · exact h1.none.elim
theorem sT_tru (ha : PE X a (rdE X.K E ma)) (he : ∀ whole, isTrue a X.env whole = (do let v ← whole; standAt a.pos; holding [v] (truthy v))) : PT X a (rdT X.K E fun σ st => bnd (ma σ st) fun x st => tru x st) :=
  imT (pt_truth ha he) fun σ H Q ⟨μ, env, st, hs, he, h⟩ =>
    ⟨μ, env, st, hs, he, h.bnd.imp fun d st1 μ1 H1 x hs1 h1 v rv => tru_of hs1 rv h1⟩
theorem sE_ife (hc : PT X c (rdT X.K E mc)) (ha : PE X a (rdE X.K E ma)) (hb : PE X b (rdE X.K E mb)) : PE X (.IfExp c a b pos) (rdE X.K E (iteM mc ma mb)) :=
  imE (pe_ifExp hc ha hb) fun σ H Q ⟨μ, env, st, hs, he, h⟩ => by
    refine ⟨μ, env, st, hs, he, h.bnd.imp fun d st1 μ1 H1 x hs1 h1 => ?_⟩
    split at h1
    · exact ⟨true, rfl, iteT (⟨μ1, env, st1, hs1, he.mono x, h1⟩)⟩
    · exact ⟨false, rfl, iteF (⟨μ1, env, st1, hs1, he.mono x, h1⟩)⟩
    · exact h1.none.elim
theorem sE_neg (ha : PE X a (rdE X.K E ma)) : PE X (.UnaryOp .USub a pos) (rdE X.K E fun σ st => bnd (ma σ st) fun x st => neg x st) :=
  imE (pe_un un_neg ha) fun σ H Q h => one (fun hs rx h => by
    unfold neg at h
    split at h
    · exact ⟨_, rx, h.val hs rfl⟩
    · exact h.none.elim) h

/-! ### arguments, displays -/
variable {es : List Expr} {ms : Env → Sto → R (List D)}
theorem sA_nil : PA X [] (rdA X.K E fun _ st => ok [] st) := imA pa_nil fun σ H Q ⟨μ, env, st, hs, he, h⟩ => h.ok (Ext.refl μ H) hs _ rfl
def consM (m : Env → Sto → R D) (ms : Env → Sto → R (List D)) : Env → Sto → R (List D) := fun σ st => bnd (m σ st) fun d st => bnd (ms σ st) fun ds st => ok (d :: ds) st
theorem cons_of {K : PySem.W.Frag} {σ : L2.St} {H : Hp} {Q : List V → Hp → Prop} (h : rdA K E (consM ma ms) σ H Q) : tCons (rdE K E ma) (rdA K E ms) σ H Q := by
  obtain ⟨μ, env, st, hs, he, h⟩ := h
  refine ⟨μ, env, st, hs, he, h.bnd.imp fun d st1 μ1 H1 x hs1 h1 v rv => ?_⟩
  refine ⟨μ1, env, st1, hs1, he.mono x, h1.bnd.imp fun ds st2 μ2 H2 x2 hs2 h2 vs rs => ?_⟩
  exact h2.ok (Ext.refl _ _) hs2 _ (.cons (rv.mono x2.mono x2.pre) rs)
theorem sA_cons (ha : PE X e (rdE X.K E ma)) (hr : PA X es (rdA X.K E ms)) (hs : starEach (e :: es) X.env = (false, eval e X.env) :: starEach es X.env) : PA X (e :: es) (rdA X.K E (consM ma ms)) :=
  imA (pa_cons ha hr hs) fun σ H Q h => cons_of h
theorem sE_tup {k : Nat} (h : PA X es (rdA X.K E ms)) (hl : es.length ≤ sizeLine) (hm : ∀ σ st ds st', ms σ st = some (.ok ds, st') → ds.length = es.length) : PE X (.Tuple es k pos) (rdE X.K E fun σ st => bnd (ms σ st) fun ds st => ok (.tup ds) st) :=
  imE (pe_tup h) fun σ H Q ⟨μ, env, st, hs, he, h⟩ => by
    have key : ∀ ds st', ms env st = some (.ok ds, st') → ds.length = es.length := hm env st
    refine ⟨μ, env, st, hs, he, ?_⟩
    obtain ⟨y, s', e1, z⟩ := h.bnd
    refine ⟨y, s', e1, ?_⟩
    cases y with
    | error _ => exact z
    | ok ds =>
      intro μ1 H1 x hs1 vs rs
      have h1 := z μ1 H1 x hs1
      refine ⟨by rw [rs.length, key _ _ e1]; exact hl, fun p hp => ?_⟩
      exact h1.ok (Ext.newO hp) (hs1.new hp) _ ⟨p, vs, rfl, .of upd_same, rs.mono (Mono.new hp) (List.prefix_refl _)⟩
theorem alloc_of {K : PySem.W.Frag} {F : XK} {μ : List Addr} {H : Hp} {st : Sto} {Q : VK} {ds : List D} {vs : List V} {p : Addr} (hs : RSt K H μ st) (h2 : RDs K H μ ds vs) (hp : H p = none) (h : Aft K F μ H (alloc (.lst ds) st) (KD K Q)) : Q (.ref p) (upd H p (.lst vs)) :=
  h.ok (Ext.push hp) (hs.push hp h2) _ ⟨p, rfl, by rw [← hs.len]; simp⟩
theorem sE_lst (h : PA X es (rdA X.K E ms)) (hl : es.length ≤ sizeLine) (hm : ∀ σ st ds st', ms σ st = some (.ok ds, st') → ds.length = es.length) : PE X (.List es pos) (rdE X.K E fun σ st => bnd (ms σ st) fun ds st => alloc (.lst ds) st) :=
  imE (pe_lst h) fun σ H Q ⟨μ, env, st, hs, he, h⟩ => by
    have key : ∀ ds st', ms env st = some (.ok ds, st') → ds.length = es.length := hm env st
    refine ⟨μ, env, st, hs, he, ?_⟩
    obtain ⟨y, s', e1, z⟩ := h.bnd
    refine ⟨y, s', e1, ?_⟩
    cases y with
    | error _ => exact z
    | ok ds =>
      intro μ1 H1 x hs1 vs rs
      exact ⟨by rw [rs.length, key _ _ e1]; exact hl, fun p hp => alloc_of hs1 rs hp (z μ1 H1 x hs1)⟩
theorem sE_ix (hu : X.A.units + 64 < cLine) (hs : PlainIx b) (ha : PE X a (rdE X.K E ma)) (hb : PE X b (rdE X.K E mb)) : PE X (.Subscript a b pos) (rdE X.K E fun σ st => bnd (ma σ st) fun x st => bnd (mb σ st) fun y st => ixop x y st) :=
  imE (pe_ix (ix_seq.or (ix_dict hu)) ha hb hs) fun σ H Q h => two (fun hs rx ry h => ix_of hs rx ry h) h
theorem sE_dnew : PE X (.Dict [] [] pos) (rdE X.K E fun _ st => alloc (.dic []) st) :=
  imE pe_dnewK fun σ H Q ⟨μ, env, st, hs, he, h⟩ p hp => h.ok (Ext.push hp) (hs.pushO hp ⟨[], upd_same, rfl, rfl⟩) _ ⟨p, rfl, by rw [← hs.len]; simp⟩
/-- arguments, then what is done with them -/
theorem args_of {K : PySem.W.Frag} {f : List D → Sto → R D} {r : List V → Hp → VK → Prop} {σ : L2.St} {H : Hp} {Q : VK} (of : ∀ {μ H st ds vs}, RSt K H μ st → RDs K H μ ds vs → Aft K (E σ) μ H (f ds st) (KD K Q) → r vs H Q)
    (h : rdE K E (fun env st => bnd (ms env st) f) σ H Q) : tCB r (rdA K E ms) σ H Q := by
  obtain ⟨μ, env, st, hs, he, h⟩ := h
  exact ⟨μ, env, st, hs, he, h.bnd.imp fun ds st1 μ1 H1 x hs1 h1 vs rv => of hs1 rv h1⟩
end
end MP

set_option Elab.async false
set_option linter.all false
set_option maxRecDepth 100000
set_option maxHeartbeats 2000000
namespace MP
open PySem PySem.Spec PyProof.Rows L2
variable [Gb]

/-! ### targets -/
/-- alike but at the slots sl -/
def Agr (sl : List Nat) (σ σ' : L2.St) : Prop := σ'.length = σ.length ∧ ∀ j : Nat, j ∉ sl → σ'[j]? = σ[j]?
theorem Agr.refl (sl : List Nat) (σ : L2.St) : Agr sl σ σ := ⟨rfl, fun _ _ => rfl⟩
theorem Agr.trans {sl sl' : List Nat} {σ σ1 σ2 : L2.St} (a : Agr sl σ σ1) (b : Agr sl' σ1 σ2) : Agr (sl ++ sl') σ σ2 := ⟨b.1.trans a.1, fun j hj => (b.2 j fun z => hj (List.mem_append_right _ z)).trans (a.2 j fun z => hj (List.mem_append_left _ z))⟩
def rdG (K : PySem.W.Frag) (sl : List Nat) (m : D → Env → Option Env) : TG := fun v σ H Q => ∃ μ env d env', RD K H μ d v ∧ REnv K H μ env σ ∧ m d env = some env' ∧ ∀ σ', Agr sl σ σ' → REnv K H μ env' σ' → Q σ' H
def rdGs (K : PySem.W.Frag) (sl : List Nat) (m : List D → Env → Option Env) : TGs := fun vs σ H Q => ∃ μ env ds env', RDs K H μ ds vs ∧ REnv K H μ env σ ∧ m ds env = some env' ∧ ∀ σ', Agr sl σ σ' → REnv K H μ env' σ' → Q σ' H
section
variable {X : Cx} {pos : Pos} {sl sl' : List Nat} {g : D → Env → Option Env} {gs : List D → Env → Option Env} {e : Expr} {es : List Expr}
theorem imGs {e : List Expr} {t t' : TGs} (h : PGs X e t) (i : ∀ v σ H Q, t' v σ H Q → t v σ H Q) : PGs X e t' := ⟨fun pins s σ H x u Q I r q => h.run pins s σ H x u Q I r (i _ _ _ _ q)⟩
theorem sG_name {i : Nat} {x : Str} (hN : X.N.Nodup) (hi : X.N[i]? = some x) (hx : Loc X.env.scope x) (hf : X.fn x = true ∨ X.env.scope.names.lookup x = some .local) : PG X (.Name x pos) (rdG X.K [i] fun d σ => some (σ.set i (some d))) :=
  imG (pg_name hN hi hx hf) fun v σ H Q ⟨μ, env, d, env', r, he, e, q⟩ => by
    cases e
    exact q _ ⟨List.length_set, fun j hj => List.getElem?_set_ne fun z => hj (by rw [z]; exact List.mem_singleton.mpr rfl)⟩ (he.set i r)
theorem sG_nil : PGs X [] (rdGs X.K [] fun ds σ => match ds with | [] => some σ | _ => none) :=
  imGs pgs_nil fun vs σ H Q ⟨μ, env, ds, env', r, he, e, q⟩ => by
    cases ds with
    | nil => cases e; exact ⟨r, q _ (Agr.refl _ _) he⟩
    | cons d ds => cases e
theorem sG_cons (h1 : PG X e (rdG X.K sl g)) (h2 : PGs X es (rdGs X.K sl' gs)) (hs : (assignEach (e :: es) X.env).map (·.2) = assign e X.env :: (assignEach es X.env).map (·.2)) : PGs X (e :: es) (rdGs X.K (sl ++ sl') fun ds σ => match ds with
    | d :: ds => (match g d σ with
      | some σ' => gs ds σ'
      | none => none)
    | [] => none) :=
  imGs (pgs_cons h1 h2 hs) fun vs σ H Q ⟨μ, env, ds, env', r, he, e, q⟩ => by
    cases ds with
    | nil => cases e
    | cons d ds =>
      obtain ⟨v, vr, rfl, r1, r2⟩ := r
      dsimp only at e
      split at e
      · rename_i env1 e1
        exact ⟨v, vr, rfl, μ, env, d, env1, r1, he, e1, fun σ1 a1 he1 => ⟨μ, env1, ds, env', r2, he1, e, fun σ2 a2 he2 => q σ2 (a1.trans a2) he2⟩⟩
      · cases e
theorem sG_tup {k : Nat} (hc : X.calm = true) (h : PGs X es (rdGs X.K sl gs)) (hl : ∀ ds σ σ', gs ds σ = some σ' → ds.length = es.length) (hn : (assignEach es X.env).length = es.length) (hst : (assignEach es X.env).findIdx? (·.1) = none) : PG X (.Tuple es k pos) (rdG X.K sl fun d σ => match d with
    | .tup ds => gs ds σ
    | _ => none) :=
  imG (pg_tup hc h hn hst) fun v σ H Q ⟨μ, env, d, env', r, he, e, q⟩ => by
    cases d with
    | tup ds =>
      obtain ⟨a, vs, rfl, h1, h2⟩ := r
      exact ⟨a, vs, rfl, h1, by rw [h2.length, hl _ _ _ e], μ, env, ds, env', h2, he, e, q⟩
    | _ => cases e
end

/-! ### what is walked -/
/-- the walk J yields the items is, as long as what g tells stands -/
structure Walks (K : PySem.W.Frag) (J : It) (is : List D) (g : Grd) (μ0 : List Addr) (H0 : Hp) : Prop where
  go : ∀ (i : Nat) (μ : List Addr) (H : Hp) (st : Sto) (d : D), Pre μ0 μ → Mono H0 H → RSt K H μ st → held g st → is[i]? = some d → J.go i H ∧ ∀ x H', J.yld i H x H' → Ext μ H μ H' ∧ RSt K H' μ st ∧ RD K H' μ d x
  stop : ∀ (μ : List Addr) (H : Hp) (st : Sto), Pre μ0 μ → Mono H0 H → RSt K H μ st → held g st → J.stop is.length H
section
variable {K : PySem.W.Frag} {μ : List Addr} {H : Hp} {st : Sto}
theorem walks_tup {a : Addr} {vs : List V} {ds : List D} (h : SqT K H a vs) (r : RDs K H μ ds vs) : Walks K (Itt K a) ds [] μ H := by
  refine ⟨fun i μ1 H1 st1 d p m hs _ e => ?_, fun μ1 H1 st1 p m hs _ => ⟨vs, m.sqT h, by rw [r.length]; exact Nat.le_refl _⟩⟩
  obtain ⟨u, e1, r1⟩ := r.get e
  refine ⟨⟨vs, u, m.sqT h, e1⟩, fun w H' y => ?_⟩
  obtain ⟨rfl, y⟩ := y
  have e2 := y vs (m.sqT h)
  rw [e1] at e2; cases e2
  exact ⟨Ext.refl _ _, hs, r1.mono m p⟩
theorem walks_rol {a : Addr} {vs : List V} {ds : List D} (h : RoL K H a vs) (r : RDs K H μ ds vs) : Walks K (Itl K a) ds [] μ H := by
  refine ⟨fun i μ1 H1 st1 d p m hs _ e => ?_, fun μ1 H1 st1 p m hs _ => ⟨vs, (m.ro h).sq, by rw [r.length]; exact Nat.le_refl _⟩⟩
  obtain ⟨u, e1, r1⟩ := r.get e
  refine ⟨⟨vs, u, (m.ro h).sq, e1⟩, fun w H' y => ?_⟩
  obtain ⟨rfl, y⟩ := y
  have e2 := y vs (m.ro h).sq
  rw [e1] at e2; cases e2
  exact ⟨Ext.refl _ _, hs, r1.mono m p⟩
theorem walks_lst {a : Addr} {n : Nat} {ds : List D} (ha : μ[n]? = some a) : Walks K (Itl K a) ds [(n, .lst ds)] μ H := by
  have key : ∀ {μ1 : List Addr} {H1 : Hp} {st1 : Sto}, Pre μ μ1 → Mono H H1 → RSt K H1 μ1 st1 → held [(n, .lst ds)] st1 → ∃ vs, H1 a = some (.lst vs) ∧ RDs K H1 μ1 ds vs := fun {μ1 H1 st1} p m hs hd => by
    have e := hd (n, .lst ds) (List.mem_singleton.mpr rfl)
    obtain ⟨a', ha', vs, h1, h2⟩ := hs.get e
    rw [pre_get p ha] at ha'; cases ha'
    exact ⟨vs, h1, h2⟩
  refine ⟨fun i μ1 H1 st1 d p m hs hd e => ?_, fun μ1 H1 st1 p m hs hd => ?_⟩
  · obtain ⟨vs, h1, r⟩ := key p m hs hd
    obtain ⟨u, e1, r1⟩ := r.get e
    refine ⟨⟨vs, u, .of h1, e1⟩, fun w H' y => ?_⟩
    obtain ⟨rfl, y⟩ := y
    have e2 := y vs (.of h1)
    rw [e1] at e2; cases e2
    exact ⟨Ext.refl _ _, hs, r1⟩
  · obtain ⟨vs, h1, r⟩ := key p m hs hd
    exact ⟨vs, .of h1, by rw [r.length]; exact Nat.le_refl _⟩
theorem range_get {lo : Int} {n i : Nat} {d : D} (h : (rangeL lo n)[i]? = some d) : i < n ∧ d = .int (lo + (i : Nat)) := by
  unfold rangeL at h
  rw [List.getElem?_map] at h
  cases e : (List.range n)[i]? with
  | none => rw [e] at h; cases h
  | some j =>
    rw [e] at h
    obtain ⟨h1, h2⟩ := List.getElem?_eq_some_iff.mp e
    rw [List.getElem_range] at h2
    rw [List.length_range] at h1
    subst h2
    exact ⟨h1, (Option.some.inj h).symm⟩
theorem walks_rng {lo : Int} {n : Nat} : Walks K (Itr lo n) (rangeL lo n) [] μ H := by
  refine ⟨fun i μ1 H1 st1 d p m hs _ e => ?_, fun μ1 H1 st1 p m hs _ => ?_⟩
  · obtain ⟨h1, rfl⟩ := range_get e
    refine ⟨h1, fun w H' y => ?_⟩
    obtain ⟨rfl, rfl⟩ := y
    exact ⟨Ext.refl _ _, hs, rfl⟩
  · unfold rangeL
    rw [List.length_map, List.length_range]
    exact Nat.le_refl _
end
theorem walks_str {K : PySem.W.Frag} {μ : List Addr} {H : Hp} (x : Str) : Walks K (Its x) (chars x) [] μ H := by
  have hl : (chars x).length = x.cps.size := by simp [chars]
  refine ⟨fun i μ1 H1 st1 d p m hs _ e => ?_, fun μ1 H1 st1 p m hs _ => by show x.cps.size ≤ (chars x).length; rw [hl]; exact Nat.le_refl _⟩
  unfold chars at e
  rw [List.getElem?_map] at e
  obtain ⟨c, e1, rfl⟩ := Option.map_eq_some_iff.mp e
  have e2 : x.cps[i]? = some c := by rw [← Array.getElem?_toList]; exact e1
  refine ⟨(Array.getElem?_eq_some_iff.mp e2).1, fun w H' y => ?_⟩
  obtain ⟨rfl, c', e3, rfl⟩ := y
  rw [e2] at e3; cases e3
  exact ⟨Ext.refl _ _, hs, rfl⟩
/-- the reading of a walked thing -/
def rdI (K : PySem.W.Frag) (E : L2.St → XK) (ms : Env → Sto → R (List D)) (k : IK) : TI := fun σ H Rr => ∃ μ env st, RSt K H μ st ∧ REnv K H μ env σ ∧ Aft K (E σ) μ H (ms env st) fun ds st' μ' H' => ∃ is g, items k ds st' = some (is, g) ∧ ∀ J, Walks K J is g μ' H' → Rr J H'
section
variable {X : Cx} {E : L2.St → XK} {tg e a b : Expr} {es : List Expr} {pos p : Pos} {ma mb : Env → Sto → R D} {ms : Env → Sto → R (List D)}
theorem imI {e : Expr} {t t' : TI} (h : PI X tg e t) (i : ∀ σ H Q, t' σ H Q → t σ H Q) : PI X tg e t' := ⟨fun pins s σ H Q I q => h.run pins s σ H Q I (i σ H Q q)⟩
theorem PI.or {t t' : TI} (h : PI X tg e t) (h' : PI X tg e t') : PI X tg e (fun σ H Q => t σ H Q ∨ t' σ H Q) := ⟨fun pins s σ H Q I q => q.elim (fun q => h.run pins s σ H Q I q) fun q => h'.run pins s σ H Q I q⟩
theorem sI_seq (he : PE X e (rdE X.K E ma)) : PI X tg e (rdI X.K E (consM ma fun _ st => ok [] st) .seq) :=
  imI (PI.or (PI.or (pi_list he) (pi_tup he)) (pi_str he)) fun σ H Q ⟨μ, env, st, hs, he, h⟩ => by
    obtain ⟨y, s', e1, z⟩ := h.bnd
    cases y with
    | error er => exact .inl (.inl ⟨μ, env, st, hs, he, _, s', e1, z⟩)
    | ok d =>
      have fin : ∀ {μ1 H1} (x : Ext μ H μ1 H1) (hs1 : RSt X.K H1 μ1 s'), ∃ is g, itSeq [d] s' = some (is, g) ∧ ∀ J, Walks X.K J is g μ1 H1 → Q J H1 := fun {μ1 H1} x hs1 => by
        obtain ⟨is, g, e2, q⟩ := (z μ1 H1 x hs1).ok (Ext.refl _ _) hs1
        exact ⟨is, g, e2, q⟩
      cases d with
      | tup ds =>
        refine .inl (.inr ⟨μ, env, st, hs, he, _, s', e1, fun μ1 H1 x hs1 v r => ?_⟩)
        obtain ⟨is, g, e2, q⟩ := fin x hs1
        cases e2
        obtain ⟨a, vs, rfl, h1, h2⟩ := r
        exact ⟨a, rfl, ⟨vs, h1⟩, q _ (walks_tup h1 h2)⟩
      | rol ds =>
        refine .inl (.inl ⟨μ, env, st, hs, he, _, s', e1, fun μ1 H1 x hs1 v r => ?_⟩)
        obtain ⟨is, g, e2, q⟩ := fin x hs1
        cases e2
        obtain ⟨a, vs, rfl, h1, h2⟩ := r
        exact ⟨a, rfl, ⟨vs, h1.sq⟩, q _ (walks_rol h1 h2)⟩
      | loc n =>
        refine .inl (.inl ⟨μ, env, st, hs, he, _, s', e1, fun μ1 H1 x hs1 v r => ?_⟩)
        obtain ⟨is, g, e2, q⟩ := fin x hs1
        have e2 : seqI (.loc n) s' = some (is, g) := e2
        unfold seqI at e2
        dsimp only at e2
        split at e2
        · rename_i ds e3
          cases e2
          obtain ⟨a, rfl, ha⟩ := r
          obtain ⟨a', ha', vs, h1, h2⟩ := hs1.get e3
          rw [ha] at ha'; cases ha'
          exact ⟨a, rfl, ⟨vs, .of h1⟩, q _ (walks_lst ha)⟩
        · cases e2
      | str sx =>
        refine .inr ⟨μ, env, st, hs, he, _, s', e1, fun μ1 H1 x hs1 v r => ?_⟩
        obtain ⟨is, g, e2, q⟩ := fin x hs1
        cases e2
        exact ⟨sx, r, q _ (walks_str sx)⟩
      | _ =>
        refine .inl (.inl ⟨μ, env, st, hs, he, _, s', e1, fun μ1 H1 x hs1 v r => ?_⟩)
        obtain ⟨is, g, e2, q⟩ := fin x hs1
        cases e2
theorem RB_eq : RB = 2 ^ 62 := by decide
theorem sI_range1 (hg : Gl X "range") (hm : X.mg "range" = none) (ha : PA X [a] (rdA X.K E ms)) (hst : starEach [a] X.env = [(false, eval a X.env)]) : PI X tg (.Call (.Name "range" p) [a] [] pos) (rdI X.K E ms .rng1) :=
  imI (pi_range1 hg hm ha hst) fun σ H Q ⟨μ, env, st, hs, he, h⟩ => by
    refine ⟨μ, env, st, hs, he, h.imp fun ds st1 μ1 H1 x hs1 h1 vs rs => ?_⟩
    obtain ⟨is, g, e1, q⟩ := h1
    have e1 : itRng1 ds = some (is, g) := e1
    unfold itRng1 at e1
    split at e1
    · split at e1
      · rename_i c
        cases e1
        obtain ⟨v, _, rfl, r, rfl⟩ := rs
        rw [RB_eq] at c
        exact ⟨_, by rw [show v = _ from r], c.1, c.2, q _ walks_rng⟩
      · cases e1
    · cases e1
theorem sI_range2 (hg : Gl X "range") (hm : X.mg "range" = none) (ha : PA X [a, b] (rdA X.K E ms)) (hst : starEach [a, b] X.env = [(false, eval a X.env), (false, eval b X.env)]) (hst2 : starEach [b] X.env = [(false, eval b X.env)]) : PI X tg (.Call (.Name "range" p) [a, b] [] pos) (rdI X.K E ms .rng2) :=
  imI (pi_range2 hg hm ha hst hst2) fun σ H Q ⟨μ, env, st, hs, he, h⟩ => by
    refine ⟨μ, env, st, hs, he, h.imp fun ds st1 μ1 H1 x hs1 h1 vs rs => ?_⟩
    obtain ⟨is, g, e1, q⟩ := h1
    have e1 : itRng2 ds = some (is, g) := e1
    unfold itRng2 at e1
    split at e1
    · split at e1
      · rename_i c
        cases e1
        obtain ⟨v, _, rfl, r, w, _, rfl, r2, rfl⟩ := rs
        rw [RB_eq] at c
        exact ⟨_, _, by rw [show v = _ from r, show w = _ from r2], ⟨c.1.1, c.1.2, c.2.1, c.2.2⟩, q _ walks_rng⟩
      · cases e1
    · cases e1
end

/-! ### for -/
section
variable {X : Cx} {E : XK}
theorem forL_of {K : PySem.W.Frag} {sl : List Nat} {J : It} {is : List D} {g : Grd} {gf : D → Env → Option Env} {tgg : G} {b : Env → Sto → R Fl} {μ0 : List Addr} {H0 : Hp} {st0 : Sto} {env0 : Env} {σ0 : L2.St} {Dn : Ends} (hgf : gf = asgG tgg) (W : Walks K J is g μ0 H0) (hs0 : RSt K H0 μ0 st0) (he0 : REnv K H0 μ0 env0 σ0)
    (h : Aft K E μ0 H0 (forL g tgg b is env0 st0) (KF K Dn)) :
    ∃ W : Nat → Nat → L2.St → Hp → Prop, (∃ m, W 0 m σ0 H0) ∧ ∀ i m σ H, W i m σ H →
      (J.stop i H ∧ Dn.nx σ H) ∨ (J.go i H ∧ ∃ N : L2.St → Hp → Prop, (∀ σ' H', N σ' H' → ∃ m', m' < m ∧ W (i + 1) m' σ' H') ∧ ∀ x H', J.yld i H x H' → rdG K sl gf x σ H' fun σ2 H2 => rdS K E b { Dn with nx := N, ct := N, bk := Dn.nx } σ2 H2) := by
  subst hgf
  refine ⟨fun i m σ H => m = is.length - i ∧ i ≤ is.length ∧ ∃ μ env st, Ext μ0 H0 μ H ∧ RSt K H μ st ∧ REnv K H μ env σ ∧ Aft K E μ H (forL g tgg b (is.drop i) env st) (KF K Dn), ⟨is.length, rfl, Nat.zero_le _, μ0, env0, st0, Ext.refl _ _, hs0, he0, h⟩, ?_⟩
  rintro i m σ H ⟨rfl, hi, μ, env, st, x0, hs, he, h⟩
  by_cases hl : i < is.length
  · have e : is.drop i = is[i] :: is.drop (i + 1) := (List.drop_eq_getElem_cons hl)
    rw [e] at h
    unfold forL at h
    obtain ⟨hd, h⟩ := h.ite
    obtain ⟨go, yl⟩ := W.go i μ H st is[i] x0.pre x0.mono hs hd (List.getElem?_eq_getElem hl)
    refine .inr ⟨go, fun σ' H' => i + 1 ≤ is.length ∧ ∃ μ env st, Ext μ0 H0 μ H' ∧ RSt K H' μ st ∧ REnv K H' μ env σ' ∧ Aft K E μ H' (forL g tgg b (is.drop (i + 1)) env st) (KF K Dn), fun σ' H' hN => ⟨is.length - (i + 1), by omega, rfl, hN.1, hN.2⟩, fun v H' y => ?_⟩
    obtain ⟨x1, hs1, r1⟩ := yl v H' y
    split at h
    · rename_i env1 e1
      refine ⟨μ, env, is[i], env1, r1, he.mono x1, e1, fun σ1 _ he1 => ?_⟩
      refine ⟨μ, env1, st, hs1, he1, (h.at x1).bnd.imp fun f st2 μ2 H2 x2 hs2 h2 => ?_⟩
      have x02 : Ext μ0 H0 μ2 H2 := (x0.trans x1).trans x2
      cases f with
      | nx env2 => exact fun σ2 he2 => ⟨hl, μ2, env2, st2, x02, hs2, he2, h2⟩
      | ct env2 => exact fun σ2 he2 => ⟨hl, μ2, env2, st2, x02, hs2, he2, h2⟩
      | bk env2 => exact fun σ2 he2 => h2.ok (Ext.refl _ _) hs2 σ2 he2
      | rt d => exact fun v rv => h2.ok (Ext.refl _ _) hs2 v rv
    · exact h.none.elim
  · have e : i = is.length := by omega
    subst e
    rw [List.drop_length] at h
    unfold forL at h
    obtain ⟨hd, h⟩ := h.ite
    exact .inl ⟨W.stop μ H st x0.pre x0.mono hs hd, h.ok (Ext.refl _ _) hs σ he⟩
theorem sS_for {sl : List Nat} {tg iter : Expr} {body : List Stmt} {k : IK} {tgg : G} {gf : D → Env → Option Env} {ms : Env → Sto → R (List D)} {b : Env → Sto → R Fl} {pos : Pos} (hgf : gf = asgG tgg) (hp : PassesOwn (model X.prog X.w) X.A X.env X.xe) (hc : X.calm = true) (hi : PI X tg iter (rdI X.K (kE E) ms k)) (hg : PG X tg (rdG X.K sl gf)) (hb : PSs X body (rdS X.K E b))
    (hs : ∀ x, foldedSetIterable iter X.env x = pure x) : PS X (.For tg iter body [] pos) (rdS X.K E fun σ st => bnd (ms σ st) fun ds st => match items k ds st with
    | some (is, g) => forL g tgg b is σ st
    | none => none) :=
  imS (ps_for hp hc hi hg hb hs) fun Dn σ H ⟨μ, env, st, hs, he, h⟩ => by
    refine ⟨μ, env, st, hs, he, h.bnd.imp fun ds st1 μ1 H1 x hs1 h1 => ?_⟩
    split at h1
    · rename_i is g e
      exact ⟨is, g, e, fun J W => forL_of hgf W hs1 (he.mono x) h1⟩
    · exact h1.none.elim

/-! ### while -/
def whlN (c : Env → Sto → R D) (b : Env → Sto → R Fl) : Nat → Env → Sto → R Fl
  | 0, _, _ => none
  | n + 1, σ, st => (match whlS c b σ st with
    | some (.inl q) => whlN c b n q.1 q.2
    | some (.inr r) => some r
    | none => none)
theorem whl_N {c : Env → Sto → R D} {b : Env → Sto → R Fl} : ∀ (σ : Env) (st : Sto) (r : Except Exn Fl × Sto), whl c b σ st = some r → ∃ n, whlN c b n σ st = some r := by
  refine whl.partial_correctness c b (fun σ st r => ∃ n, whlN c b n σ st = some r) fun w ih σ st r h => ?_
  cases e : whlS c b σ st with
  | none => rw [e] at h; cases h
  | some p =>
    rw [e] at h
    cases p with
    | inl q =>
      obtain ⟨n, hn⟩ := ih q.1 q.2 r h
      exact ⟨n + 1, by unfold whlN; rw [e]; exact hn⟩
    | inr q =>
      have h' : some q = some r := h
      exact ⟨1, by unfold whlN; rw [e]; exact h'⟩
end
end MP

set_option Elab.async false
set_option linter.all false
set_option maxRecDepth 100000
set_option maxHeartbeats 2000000
/-! enumerate of tuples and texts, zip, range with a step -/
namespace MI
open PySem PySem.Spec PyProof.Rows L2
theorem draws_tup {prog : Program} {w : World} {A : Around} (hh : A.handled = none) (it l : Addr) (hne : l ≠ it) (items : Array Value) :
    Draws prog w A it [it, l] items.size (fun i v => items[i]? = some v) (fun i h => h.IsTupleIter it l i ∧ h.IsTuple l items) where
  live := fun _ _ st => let ⟨o, ho, _⟩ := st.1; ⟨o, ho⟩
  frame := fun _ _ _ st hk => ⟨st.1.at fun o e => hk it (by simp) o e, by
    obtain ⟨o, ho, r⟩ := st.2
    exact ⟨o, hk l (by simp) o ho, r⟩⟩
  item := fun i s Q E hi st hQ => by
    refine RZ.nextOf_tuple_item st.1 st.2 (x := items[i]) (by simp [hi]) fun h' hit' hs' => ?_
    obtain ⟨o, ho, r⟩ := st.2
    exact hQ _ h' s.toks (by simp [hi]) ⟨hit', o, hs'.extBut _ _ hne ho, r⟩ hs'
  done := fun s Q E st hE => RZ.nextOf_tuple_end hh st.1 st.2 (by simp) hE
theorem meets_enumerate_newT (l : Addr) (items : Array Value) :
    Meets (Builtin.«enumerate.__new__» ⟨[.type "enumerate", .ref l], []⟩) (fun _ R s => s.heap.IsTuple l items ∧
      R (.ok (.ret (.ref (s.heap.push { cls := .type "tuple_iterator", data := .fields #[.ref l, .int 0 0] }).objs.size)))
        { s with heap := (s.heap.push { cls := .type "tuple_iterator", data := .fields #[.ref l, .int 0 0] }).push { cls := .type "enumerate", data := .fields #[.none, .bool false, .ref s.heap.objs.size, rawInt 0, .none, .none] } }) :=
  .of_wp fun prog w A R s h => by
    obtain ⟨hp, g, d, tk, os⟩ := s; obtain ⟨hl, h⟩ := h
    have hsub := sub_enumerate
    have hL : Heap.IsTuple (Shared.heap ⟨hp, g, d, tk, os⟩) l items := hl
    wp_walk
    refine wpAny_stack_any fun st => wpAny_pure ?_
    split
    · rename_i c _ _ _ _ _
      cases (c == Value.type "enumerate")
      · wp_walk using wpAny_pyIter_tuple hL
        exact ⟨_, rfl, h⟩
      · wp_walk using wpAny_pyIter_tuple hL
        exact ⟨_, rfl, h⟩
    · wp_walk using wpAny_pyIter_tuple hL
      exact ⟨_, rfl, h⟩
section
variable {prog : Program} {w : World} {A : Around} {E : Value → Shared → Prop} {s : Shared}
theorem call_enumerate_tup {l : Addr} {items : Array Value} {Q : Value → Shared → Prop} (hL : s.heap.IsTuple l items)
    (h : ∀ h', IsEnum h' (s.heap.objs.size + 1) s.heap.objs.size 0 .none → h'.IsTupleIter s.heap.objs.size l 0 → h'.objs.size = s.heap.objs.size + 2 →
      (∀ b o, s.heap.get? b = some o → h'.get? b = some o) → Q (.ref (s.heap.objs.size + 1)) { s with heap := h' }) :
    wpAny (model prog w) A (call (.type "enumerate") [.ref l]) Q E s := by
  refine callType_new F.called_enumerate (by decide) (F.typeCall_enumerate_1 _) (F.newCall_enumerate_1 _) (fun obj => F.args_object_init_2 obj _) F.entry_enumerate_new
    (meets_enumerate_newT l items) ⟨hL, ?_⟩
  have hz : (s.heap.push { cls := .type "tuple_iterator", data := .fields #[.ref l, .int 0 0] }).objs.size = s.heap.objs.size + 1 := Heap.size_push ..
  show _ ∧ _
  rw [hz]
  have he : IsEnum ((s.heap.push { cls := .type "tuple_iterator", data := .fields #[.ref l, .int 0 0] }).push
      { cls := .type "enumerate", data := .fields #[.none, .bool false, .ref s.heap.objs.size, rawInt 0, .none, .none] }) (s.heap.objs.size + 1) s.heap.objs.size 0 .none := by
    have := Heap.get?_push_size (s.heap.push { cls := .type "tuple_iterator", data := .fields #[.ref l, .int 0 0] })
      (o := { cls := .type "enumerate", data := .fields #[.none, .bool false, .ref s.heap.objs.size, rawInt 0, .none, .none] }) rfl
    rw [hz] at this; exact this
  refine ⟨⟨_, he, rfl⟩, h _ he ⟨_, Heap.get?_push_of_some _ (Heap.get?_push_size _ rfl), rfl, rfl⟩ (by rw [Heap.size_push, hz]) fun b o x => Heap.get?_push_of_some _ (Heap.get?_push_of_some _ x)⟩
end
/-- the tuple at a, each item in a new pair -/
def IteT (K : PySem.W.Frag) (a : Addr) : It :=
  ⟨fun i H => ∃ (xs : List V) (x : V), SqT K H a xs ∧ xs[i]? = some x, fun i H v H' => ∃ T x, v = .ref T ∧ H T = none ∧ H' = upd H T (.tup [.int (i : Nat), x]) ∧ ∀ xs, SqT K H a xs → xs[i]? = some x, fun i H => ∃ xs : List V, SqT K H a xs ∧ xs.length = i⟩
theorem turn_enumT {P : Program} {w : World} {K : PySem.W.Frag} {elts : List Expr} {kk : Nat} {tpos : Pos} (a e it : Addr) :
    Turn P w K (.Tuple elts kk tpos) (IteT K a) [e, it] e (fun i h => (∃ old, IsEnum h e it ((i : Nat) : Int) old) ∧ h.IsTupleIter it a i ∧ e ≠ it) where
  mem := by simp
  obj := fun i h st b hb => by
    obtain ⟨⟨old, he⟩, ⟨o, ho, hc, hd⟩, _⟩ := st
    have e' : b = e ∨ b = it := by simpa using hb
    rcases e' with z | z
    · rw [z]; exact ⟨_, he, fun v q => nomatch q⟩
    · rw [z]; exact ⟨o, ho, fun v q => by rw [hd] at q; cases q⟩
  keep := fun i h h' st k => let ⟨⟨old, he⟩, hi, hne⟩ := st; ⟨⟨old, k e (by simp) _ he⟩, hi.at fun o q => k it (by simp) o q, hne⟩
  item := by
    intro X hP hw hK hc i pins s σ H E I hf st hg
    subst hP hw hK
    obtain ⟨⟨old, he⟩, hit, hne⟩ := st
    obtain ⟨xs, x, hq, hx⟩ := hg
    obtain ⟨its, rv, p, hz⟩ := I.tuple hq
    have p2 : s.heap.IsTuple a its.toArray := p
    obtain ⟨u, hu, ru⟩ := rv.get hx
    have hel : e < s.heap.objs.size := Heap.lt_size he
    have hil : it < s.heap.objs.size := by obtain ⟨_, q, _⟩ := hit; exact Heap.lt_size q
    have hae : e ≠ a := fun z => by
      obtain ⟨o, ho, hc, _⟩ := p2
      rw [← z, he] at ho
      cases ho
      have hc : Value.type "enumerate" = Value.type "tuple" := hc
      exact absurd hc (by decide)
    have hai : a ≠ it := fun z => by
      obtain ⟨o, ho, hc, _⟩ := p2
      obtain ⟨o2, ho2, hc2, _⟩ := hit
      rw [z, ho2] at ho
      cases ho
      rw [hc2] at hc
      exact absurd hc (by decide)
    have hlt : i < its.toArray.size := by
      have := (List.getElem?_eq_some_iff.mp hu).1
      simpa using this
    refine wpAny_pyNext_enum_itemD (draws_tup (prog := X.prog) (w := X.w) (A := X.A.in1) (I.ok.hd hc) it a hai its.toArray) he ⟨hit, p2⟩ hlt hne (by simp [hne, hae]) fun x' h' tk hx' ho hst hT hsz hk => ?_
    have ex : x' = u := by
      have z : its[i]? = some x' := by simpa using hx'
      rw [hu] at z; exact (Option.some.inj z).symm
    subst ex
    refine ⟨_, rfl, wpAny_letOwnedTupleGo_enum (s := { s with heap := h', toks := tk + 1 }) ho fun h'' he' sb => ?_⟩
    have hT2 : h''.get? s.heap.objs.size = some { cls := .type "tuple", data := .seq #[.int i tk, x'] } := (sb.2 _ (Nat.ne_of_gt hel)).trans hT
    have new : ObjOk X.prog X.w (upd H s.heap.objs.size (.tup [.int (i : Nat), x])) h'' s.heap.objs.size (.tup [.int (i : Nat), x]) :=
      ⟨by show 2 ≤ sizeLine; decide, [.int i tk, x'], .cons ⟨_, rfl⟩ (.cons ru .nil), ⟨_, hT2, rfl, _, rfl⟩⟩
    have I1 : Inv X pins σ (upd H s.heap.objs.size (.tup [.int (i : Nat), x])) { s with heap := h'', toks := tk + 1 } :=
      I.turnedNew (ch := [e, it]) (fun b ob hb q => (sb.2 b (fun z => hb (by simp [z]))).trans (hk b ob (fun z => hb (by simp [z])) (fun z => hb (by simp [z])) q)) hf (Nat.le_refl _) new
    refine ⟨.ref s.heap.objs.size, _, I1, rfl, ⟨_, x, rfl, I.hok.fresh (Nat.le_refl _), rfl, fun ys hy => by rw [I.tuple_inj hy hq]; exact hx⟩, ⟨⟨x', ?_⟩, hst.1.at fun o q => (sb.2 it (Ne.symm hne)).trans q, hne⟩, fun b hb => ?_⟩
    · have e1 : ((i + 1 : Nat) : Int) = (i : Int) + 1 := by omega
      rw [e1]; exact he'
    · have hb' : b < s.heap.objs.size := by
        have e' : b = e ∨ b = it := by simpa using hb
        rcases e' with z | z
        · rw [z]; exact hel
        · rw [z]; exact hil
      rw [upd_ne (Nat.ne_of_lt hb')]
      exact (hf b hb).1
  done := by
    intro X hP hw hK hc i pins s σ H E I hf st hg
    subst hP hw hK
    obtain ⟨⟨old, he⟩, hit, hne⟩ := st
    obtain ⟨xs, hq, hx⟩ := hg
    obtain ⟨its, rv, p, hz⟩ := I.tuple hq
    have p2 : s.heap.IsTuple a its.toArray := p
    obtain ⟨f0, f1, f2, f3, f4, f5⟩ := hf it (by simp)
    have hl := rv.length
    have hai : a ≠ it := fun z => by
      obtain ⟨o, ho, hc, _⟩ := p2
      obtain ⟨o2, ho2, hc2, _⟩ := hit
      rw [z, ho2] at ho
      cases ho
      rw [hc2] at hc
      exact absurd hc (by decide)
    have D := draws_tup (prog := X.prog) (w := X.w) (A := X.A.in1) (I.ok.hd hc) it a hai its.toArray
    have hs : its.toArray.size = i := by simp; omega
    rw [hs] at D
    exact wpAny_pyNext_enum_endD D he ⟨hit, p2⟩ fun h' eb => ⟨rfl, I.turned (t' := s.toks) (fun b o hb q => eb b o hb q) f0 f1 f3 f4 f5⟩
  self := fun A i s Q E st h => let ⟨⟨_, he⟩, _⟩ := st; wpAny_pyIter_enum he h

def iEnumT (K : PySem.W.Frag) (ta : TA) : TI := fun σ H R => ta σ H fun vs H1 => ∃ a xs, vs = [.ref a] ∧ SqT K H1 a xs ∧ R (IteT K a) H1
theorem pi_enumT {X : Cx} {e : Expr} {ta : TA} {p pos tpos : Pos} {elts : List Expr} {kk : Nat} (hg : Gl X "enumerate") (hm : X.mg "enumerate" = none) (ha : PA X [e] ta) (hs : starEach [e] X.env = [(false, eval e X.env)]) :
    PI X (.Tuple elts kk tpos) (.Call (.Name "enumerate" p) [e] [] pos) (iEnumT X.K ta) := by
  refine ⟨fun pins s σ H R I h => ?_⟩
  refine Call_ (ld_blt I hg hm boot_enumerate (PyProof.Rows.callWith_type1 (thn (ha.run pos pins s σ H _ I h) fun us s1 ⟨vs, H1, I1, r1, q1⟩ => ?_) hs rfl))
  obtain ⟨a, xs, ex, hq, q⟩ := q1
  subst ex
  cases r1 with
  | cons r rr =>
    cases rr
    cases r
    obtain ⟨its, rv, p', hz⟩ := I1.tuple hq
    refine call_enumerate_tup (show s1.heap.IsTuple a its.toArray from p') fun h' he hit hsz hk => wpAny_pyIter_enum he ?_
    have I2 : Inv X pins σ H1 { s1 with heap := h' } := I1.kept (t' := s1.toks) hk
    refine ⟨s1.heap.objs.size + 1, [s1.heap.objs.size + 1, s1.heap.objs.size], _, _, H1, rfl, I2, turn_enumT a (s1.heap.objs.size + 1) s1.heap.objs.size, ⟨⟨.none, he⟩, hit, Nat.succ_ne_self _⟩, fun b hb => ?_, q⟩
    have e' : b = s1.heap.objs.size + 1 ∨ b = s1.heap.objs.size := by simpa using hb
    have hle : s1.heap.objs.size ≤ b := by
      rcases e' with z | z
      · rw [z]; exact Nat.le_add_right _ _
      · rw [z]; exact Nat.le_refl _
    exact I1.fpOk hle (I1.hok.fresh hle)
/-! ### enumerate of a text -/
def IteS (x : Str) : It :=
  ⟨fun i _ => i < x.cps.size, fun i H v H' => ∃ T c, v = .ref T ∧ H T = none ∧ x.cps[i]? = some c ∧ H' = upd H T (.tup [.int (i : Nat), .str ⟨#[c]⟩]), fun i _ => x.cps.size = i⟩
theorem turn_enumS {P : Program} {w : World} {K : PySem.W.Frag} {elts : List Expr} {kk : Nat} {tpos : Pos} (e it : Addr) (x : Str) (t : Tok) (ty : String) (hty : ty = "str_ascii_iterator" ∨ ty = "str_iterator") :
    Turn P w K (.Tuple elts kk tpos) (IteS x) [e, it] e (fun i h => (∃ old, IsEnum h e it ((i : Nat) : Int) old) ∧ h.IsStrIter it ty x t i ∧ e ≠ it) where
  mem := by simp
  obj := fun i h st b hb => by
    obtain ⟨⟨old, he⟩, ⟨o, ho, hc, hd⟩, _⟩ := st
    have e' : b = e ∨ b = it := by simpa using hb
    rcases e' with z | z
    · rw [z]; exact ⟨_, he, fun v q => nomatch q⟩
    · rw [z]; exact ⟨o, ho, fun v q => by rw [hd] at q; cases q⟩
  keep := fun i h h' st k => let ⟨⟨old, he⟩, ⟨o, ho, r⟩, hne⟩ := st; ⟨⟨old, k e (by simp) _ he⟩, ⟨o, k it (by simp) o ho, r⟩, hne⟩
  item := by
    intro X hP hw hK hc i pins s σ H E I hf st hg
    subst hP hw hK
    obtain ⟨⟨old, he⟩, hit, hne⟩ := st
    have hel : e < s.heap.objs.size := Heap.lt_size he
    have hil : it < s.heap.objs.size := by obtain ⟨_, q, _⟩ := hit; exact Heap.lt_size q
    have D : Draws X.prog X.w X.A.in1 it [it] x.cps.size (fun i v => ∃ c u, x.cps[i]? = some c ∧ v = .str ⟨#[c]⟩ u) (fun i h => h.IsStrIter it ty x t i) := by
      rcases hty with q | q
      · rw [q]; exact Draws.strAscii (A := X.A.in1) (I.ok.hd hc) it x t
      · rw [q]; exact Draws.strWide (A := X.A.in1) (I.ok.hd hc) it x t
    refine wpAny_pyNext_enum_itemD D he hit hg hne (by simp [hne]) fun x' h' tk hx' ho hst hT hsz hk => ?_
    obtain ⟨c, u, hcx, rfl⟩ := hx'
    refine ⟨_, rfl, wpAny_letOwnedTupleGo_enum (s := { s with heap := h', toks := tk + 1 }) ho fun h'' he' sb => ?_⟩
    have hT2 : h''.get? s.heap.objs.size = some { cls := .type "tuple", data := .seq #[.int i tk, .str ⟨#[c]⟩ u] } := (sb.2 _ (Nat.ne_of_gt hel)).trans hT
    have new : ObjOk X.prog X.w (upd H s.heap.objs.size (.tup [.int (i : Nat), .str ⟨#[c]⟩])) h'' s.heap.objs.size (.tup [.int (i : Nat), .str ⟨#[c]⟩]) :=
      ⟨by show 2 ≤ sizeLine; decide, [.int i tk, .str ⟨#[c]⟩ u], .cons ⟨_, rfl⟩ (.cons ⟨_, rfl⟩ .nil), ⟨_, hT2, rfl, _, rfl⟩⟩
    have I1 : Inv X pins σ (upd H s.heap.objs.size (.tup [.int (i : Nat), .str ⟨#[c]⟩])) { s with heap := h'', toks := tk + 1 } :=
      I.turnedNew (ch := [e, it]) (fun b ob hb q => (sb.2 b (fun z => hb (by simp [z]))).trans (hk b ob (fun z => hb (by simp [z])) (fun z => hb (by simp [z])) q)) hf (Nat.le_refl _) new
    refine ⟨.ref s.heap.objs.size, _, I1, rfl, ⟨_, c, rfl, I.hok.fresh (Nat.le_refl _), hcx, rfl⟩, ⟨⟨.str ⟨#[c]⟩ u, ?_⟩, ?_, hne⟩, fun b hb => ?_⟩
    · have e1 : ((i + 1 : Nat) : Int) = (i : Int) + 1 := by omega
      rw [e1]; exact he'
    · obtain ⟨o, ho2, r⟩ := hst
      exact ⟨o, (sb.2 it (Ne.symm hne)).trans ho2, r⟩
    · have hb' : b < s.heap.objs.size := by
        have e' : b = e ∨ b = it := by simpa using hb
        rcases e' with z | z
        · rw [z]; exact hel
        · rw [z]; exact hil
      rw [upd_ne (Nat.ne_of_lt hb')]
      exact (hf b hb).1
  done := by
    intro X hP hw hK hc i pins s σ H E I hf st hg
    subst hP hw hK
    obtain ⟨⟨old, he⟩, hit, hne⟩ := st
    obtain ⟨f0, f1, f2, f3, f4, f5⟩ := hf it (by simp)
    have D : Draws X.prog X.w X.A.in1 it [it] x.cps.size (fun i v => ∃ c u, x.cps[i]? = some c ∧ v = .str ⟨#[c]⟩ u) (fun i h => h.IsStrIter it ty x t i) := by
      rcases hty with q | q
      · rw [q]; exact Draws.strAscii (A := X.A.in1) (I.ok.hd hc) it x t
      · rw [q]; exact Draws.strWide (A := X.A.in1) (I.ok.hd hc) it x t
    have hg : x.cps.size = i := hg
    rw [hg] at D
    exact wpAny_pyNext_enum_endD D he hit fun h' eb => ⟨rfl, I.turned (t' := s.toks) (fun b o hb q => eb b o hb q) f0 f1 f3 f4 f5⟩
  self := fun A i s Q E st h => let ⟨⟨_, he⟩, _⟩ := st; wpAny_pyIter_enum he h
def iEnumS (ta : TA) : TI := fun σ H R => ta σ H fun vs H1 => ∃ x, vs = [.str x] ∧ R (IteS x) H1
theorem pi_enumS {X : Cx} {e : Expr} {ta : TA} {p pos tpos : Pos} {elts : List Expr} {kk : Nat} (hg : Gl X "enumerate") (hm : X.mg "enumerate" = none) (ha : PA X [e] ta) (hs : starEach [e] X.env = [(false, eval e X.env)]) :
    PI X (.Tuple elts kk tpos) (.Call (.Name "enumerate" p) [e] [] pos) (iEnumS ta) := by
  refine ⟨fun pins s σ H R I h => ?_⟩
  refine Call_ (ld_blt I hg hm boot_enumerate (PyProof.Rows.callWith_type1 (thn (ha.run pos pins s σ H _ I h) fun us s1 ⟨vs, H1, I1, r1, q1⟩ => ?_) hs rfl))
  obtain ⟨x, ex, q⟩ := q1
  subst ex
  cases r1 with
  | cons r rr =>
    cases rr
    obtain ⟨t, rfl⟩ := r
    refine call_enumerate_str fun h' he hit hsz hk => wpAny_pyIter_enum he ?_
    have I2 : Inv X pins σ H1 { s1 with heap := h' } := I1.kept (t' := s1.toks) hk
    have hty : strIterType x = "str_ascii_iterator" ∨ strIterType x = "str_iterator" := by
      unfold strIterType
      split
      · exact .inl rfl
      · exact .inr rfl
    refine ⟨s1.heap.objs.size + 1, [s1.heap.objs.size + 1, s1.heap.objs.size], _, _, H1, rfl, I2, turn_enumS (s1.heap.objs.size + 1) s1.heap.objs.size x t _ hty, ⟨⟨.none, he⟩, hit, Nat.succ_ne_self _⟩, fun b hb => ?_, q⟩
    have e' : b = s1.heap.objs.size + 1 ∨ b = s1.heap.objs.size := by simpa using hb
    have hle : s1.heap.objs.size ≤ b := by
      rcases e' with z | z
      · rw [z]; exact Nat.le_add_right _ _
      · rw [z]; exact Nat.le_refl _
    exact I1.fpOk hle (I1.hok.fresh hle)
end MI
namespace MP
open PySem PySem.Spec PyProof.Rows L2
variable [Gb]
section
variable {K : PySem.W.Frag} {μ : List Addr} {H : Hp} {st : Sto}
def enumL (ds : List D) : List D := ds.zipIdx.map fun p => .tup [.int (p.2 : Nat), p.1]
theorem enumL_len (ds : List D) : (enumL ds).length = ds.length := by simp [enumL]
theorem enumL_get {ds : List D} {i : Nat} {d : D} (h : (enumL ds)[i]? = some d) : ∃ e, ds[i]? = some e ∧ d = .tup [.int (i : Nat), e] := by
  unfold enumL at h
  rw [List.getElem?_map, List.getElem?_zipIdx] at h
  cases q : ds[i]? with
  | none => rw [q] at h; cases h
  | some e =>
    rw [q] at h
    refine ⟨e, rfl, ?_⟩
    have h2 : D.tup [.int ((0 + i : Nat)), e] = d := by simpa using h
    rw [← h2, Nat.zero_add]
theorem pair_new {μ : List Addr} {H : Hp} {st : Sto} {T : Addr} {x y : V} {d e : D} (hs : RSt K H μ st) (hT : H T = none) (r1 : RD K H μ d x) (r2 : RD K H μ e y) :
    Ext μ H μ (upd H T (.tup [x, y])) ∧ RSt K (upd H T (.tup [x, y])) μ st ∧ RD K (upd H T (.tup [x, y])) μ (.tup [d, e]) (.ref T) :=
  ⟨Ext.newO hT, hs.new hT, T, [x, y], rfl, .of upd_same, .cons (r1.mono (Mono.new hT) (List.prefix_refl _)) (.one (r2.mono (Mono.new hT) (List.prefix_refl _)))⟩
theorem walks_enumT {a : Addr} {vs : List V} {ds : List D} (h : SqT K H a vs) (r : RDs K H μ ds vs) : Walks K (MI.IteT K a) (enumL ds) [] μ H := by
  refine ⟨fun i μ1 H1 st1 d p m hs _ e => ?_, fun μ1 H1 st1 p m hs _ => ⟨vs, m.sqT h, by rw [enumL_len, r.length]⟩⟩
  obtain ⟨e1, h1, rfl⟩ := enumL_get e
  obtain ⟨u, e2, r2⟩ := r.get h1
  refine ⟨⟨vs, u, m.sqT h, e2⟩, fun w H' y => ?_⟩
  obtain ⟨T, x, rfl, hT, rfl, y⟩ := y
  have e3 := y vs (m.sqT h)
  rw [e2] at e3; cases e3
  exact pair_new hs hT rfl (r2.mono m p)
theorem walks_enumR {a : Addr} {vs : List V} {ds : List D} (h : RoL K H a vs) (r : RDs K H μ ds vs) : Walks K (Ite K a) (enumL ds) [] μ H := by
  refine ⟨fun i μ1 H1 st1 d p m hs _ e => ?_, fun μ1 H1 st1 p m hs _ => ⟨vs, (m.ro h).sq, by rw [enumL_len, r.length]; exact Nat.le_refl _⟩⟩
  obtain ⟨e1, h1, rfl⟩ := enumL_get e
  obtain ⟨u, e2, r2⟩ := r.get h1
  refine ⟨⟨vs, u, (m.ro h).sq, e2⟩, fun w H' y => ?_⟩
  obtain ⟨T, x, rfl, hT, rfl, y⟩ := y
  have e3 := y vs (m.ro h).sq
  rw [e2] at e3; cases e3
  exact pair_new hs hT rfl (r2.mono m p)
theorem lst_at {a : Addr} {n : Nat} {ds : List D} (ha : μ[n]? = some a) {g : Grd} (hg : (n, O.lst ds) ∈ g) {μ1 : List Addr} {H1 : Hp} {st1 : Sto} (p : Pre μ μ1) (hs : RSt K H1 μ1 st1) (hd : held g st1) : ∃ vs, H1 a = some (.lst vs) ∧ RDs K H1 μ1 ds vs := by
  have e := hd (n, .lst ds) hg
  obtain ⟨a', ha', vs, h1, h2⟩ := hs.get e
  rw [pre_get p ha] at ha'; cases ha'
  exact ⟨vs, h1, h2⟩
theorem walks_enumL {a : Addr} {n : Nat} {ds : List D} (ha : μ[n]? = some a) : Walks K (Ite K a) (enumL ds) [(n, .lst ds)] μ H := by
  refine ⟨fun i μ1 H1 st1 d p m hs hd e => ?_, fun μ1 H1 st1 p m hs hd => ?_⟩
  · obtain ⟨vs, h1, r⟩ := lst_at ha (List.mem_singleton.mpr rfl) p hs hd
    obtain ⟨e1, h2, rfl⟩ := enumL_get e
    obtain ⟨u, e2, r2⟩ := r.get h2
    refine ⟨⟨vs, u, .of h1, e2⟩, fun w H' y => ?_⟩
    obtain ⟨T, x, rfl, hT, rfl, y⟩ := y
    have e3 := y vs (.of h1)
    rw [e2] at e3; cases e3
    exact pair_new hs hT rfl r2
  · obtain ⟨vs, h1, r⟩ := lst_at ha (List.mem_singleton.mpr rfl) p hs hd
    exact ⟨vs, .of h1, by rw [enumL_len, r.length]; exact Nat.le_refl _⟩
end
section
variable {X : Cx} {E : L2.St → XK} {a b d : Expr} {pos p tpos : Pos} {elts : List Expr} {kk : Nat} {ma mb : Env → Sto → R D} {ms : Env → Sto → R (List D)}
theorem walks_enumS {K : PySem.W.Frag} {μ : List Addr} {H : Hp} (x : Str) : Walks K (MI.IteS x) (enumL (chars x)) [] μ H := by
  have hl : (chars x).length = x.cps.size := by simp [chars]
  refine ⟨fun i μ1 H1 st1 d p m hs _ e => ?_, fun μ1 H1 st1 p m hs _ => by show x.cps.size = (enumL (chars x)).length; rw [enumL_len, hl]⟩
  obtain ⟨e1, h1, rfl⟩ := enumL_get e
  unfold chars at h1
  rw [List.getElem?_map] at h1
  obtain ⟨c, e1, rfl⟩ := Option.map_eq_some_iff.mp h1
  have e2 : x.cps[i]? = some c := by rw [← Array.getElem?_toList]; exact e1
  refine ⟨(Array.getElem?_eq_some_iff.mp e2).1, fun w H' y => ?_⟩
  obtain ⟨T, c', rfl, hT, e3, rfl⟩ := y
  rw [e2] at e3; cases e3
  exact pair_new hs hT rfl rfl
theorem sI_enum (hg : Gl X "enumerate") (hm : X.mg "enumerate" = none) (ha : PA X [a] (rdA X.K E ms)) (hs : starEach [a] X.env = [(false, eval a X.env)]) : PI X (.Tuple elts kk tpos) (.Call (.Name "enumerate" p) [a] [] pos) (rdI X.K E ms .enum) :=
  imI (PI.or (PI.or (pi_enum hg hm ha hs) (MI.pi_enumT hg hm ha hs)) (MI.pi_enumS hg hm ha hs)) fun σ H Q ⟨μ, env, st, hs, he, h⟩ => by
    obtain ⟨y, s', e1, z⟩ := h
    cases y with
    | error er => exact .inl (.inl ⟨μ, env, st, hs, he, _, s', e1, z⟩)
    | ok ds0 =>
      have fin : ∀ {μ1 H1} (x : Ext μ H μ1 H1) (hs1 : RSt X.K H1 μ1 s'), ∃ is g, itEnum ds0 s' = some (is, g) ∧ ∀ J, Walks X.K J is g μ1 H1 → Q J H1 := fun {μ1 H1} x hs1 => z μ1 H1 x hs1
      by_cases hS : ∃ x, ds0 = [.str x]
      · obtain ⟨sx, rfl⟩ := hS
        refine .inr ⟨μ, env, st, hs, he, _, s', e1, fun μ1 H1 x hs1 vs r => ?_⟩
        obtain ⟨is, g, e2, q⟩ := fin x hs1
        cases e2
        obtain ⟨v, _, rfl, r1, rfl⟩ := r
        exact ⟨sx, by rw [show v = _ from r1], q _ (walks_enumS sx)⟩
      by_cases hT : ∃ ds, ds0 = [.tup ds]
      · obtain ⟨ds, rfl⟩ := hT
        refine .inl (.inr ⟨μ, env, st, hs, he, _, s', e1, fun μ1 H1 x hs1 vs r => ?_⟩)
        obtain ⟨is, g, e2, q⟩ := fin x hs1
        cases e2
        obtain ⟨v, _, rfl, ⟨a, vs, rfl, h1, h2⟩, rfl⟩ := r
        exact ⟨a, vs, rfl, h1, q _ (walks_enumT h1 h2)⟩
      · refine .inl (.inl ⟨μ, env, st, hs, he, _, s', e1, fun μ1 H1 x hs1 vs r => ?_⟩)
        obtain ⟨is, g, e2, q⟩ := fin x hs1
        unfold itEnum at e2
        split at e2
        · exact absurd ⟨_, rfl⟩ hS
        · split at e2
          · rename_i d st' ds g' e3
            cases e2
            obtain ⟨v, _, rfl, r1, rfl⟩ := r
            unfold seqI at e3
            split at e3
            · exact absurd ⟨_, rfl⟩ hT
            · cases e3
              obtain ⟨a, vs, rfl, h1, h2⟩ := r1
              exact ⟨a, vs, rfl, h1.sq, q _ (walks_enumR h1 h2)⟩
            · split at e3
              · rename_i e4
                cases e3
                obtain ⟨a, rfl, ha⟩ := r1
                obtain ⟨a', ha', vs, h1, h2⟩ := hs1.get e4
                rw [ha] at ha'; cases ha'
                exact ⟨a, vs, rfl, .of h1, q _ (walks_enumL ha)⟩
              · cases e3
            · cases e3
          · cases e2
        · cases e2
/-! ### zip -/
theorem zipL_len (ds es : List D) : (zipL ds es).length = min ds.length es.length := by simp [zipL]
theorem zipL_get {ds es : List D} {i : Nat} {d : D} (h : (zipL ds es)[i]? = some d) : ∃ x y, ds[i]? = some x ∧ es[i]? = some y ∧ d = .tup [x, y] := by
  unfold zipL at h
  rw [List.getElem?_map] at h
  obtain ⟨p, h1, h2⟩ := Option.map_eq_some_iff.mp h
  obtain ⟨a, b⟩ := List.getElem?_zip_eq_some.mp h1
  exact ⟨p.1, p.2, a, b, h2.symm⟩
/-- a list walked: what it holds as long as it is held -/
def LsAt (K : PySem.W.Frag) (μ : List Addr) (H : Hp) (a : Addr) (ds : List D) (g : Grd) : Prop := ∀ μ1 H1 st1, Pre μ μ1 → Mono H H1 → RSt K H1 μ1 st1 → held g st1 → ∃ vs, SqL K H1 a vs ∧ RDs K H1 μ1 ds vs
theorem seqL_of {K : PySem.W.Frag} {μ : List Addr} {H : Hp} {st : Sto} {d : D} {v : V} {ds : List D} {g : Grd} (hs : RSt K H μ st) (r : RD K H μ d v) (hd : ∀ xs, d ≠ .tup xs) (e : seqI d st = some (ds, g)) : ∃ a, v = .ref a ∧ (held g st) ∧ LsAt K μ H a ds g := by
  unfold seqI at e
  split at e
  · exact absurd rfl (hd _)
  · cases e
    obtain ⟨a, vs, rfl, h1, h2⟩ := r
    exact ⟨a, rfl, (fun _ hp => nomatch hp), fun μ1 H1 st1 p m hs1 _ => ⟨vs, (m.ro h1).sq, h2.mono m p⟩⟩
  · split at e
    · rename_i e4
      cases e
      obtain ⟨a, rfl, ha⟩ := r
      refine ⟨a, rfl, fun p hp => by rw [List.mem_singleton.mp hp]; exact e4, fun μ1 H1 st1 p m hs1 hd => ?_⟩
      obtain ⟨vs, h1, h2⟩ := lst_at ha (List.mem_singleton.mpr rfl) p hs1 hd
      exact ⟨vs, .of h1, h2⟩
    · cases e
  · cases e
theorem walks_zipL {K : PySem.W.Frag} {μ : List Addr} {H : Hp} {a b : Addr} {ds es : List D} {g h : Grd} (ha : LsAt K μ H a ds g) (hb : LsAt K μ H b es h) : Walks K (Itz K a b) (zipL ds es) (g ++ h) μ H := by
  have key : ∀ {μ1 H1 st1}, Pre μ μ1 → Mono H H1 → RSt K H1 μ1 st1 → held (g ++ h) st1 → ∃ xs ys, SqL K H1 a xs ∧ RDs K H1 μ1 ds xs ∧ SqL K H1 b ys ∧ RDs K H1 μ1 es ys := fun {μ1 H1 st1} p m hs hd => by
    obtain ⟨xs, h1, h2⟩ := ha μ1 H1 st1 p m hs fun q hq => hd q (List.mem_append_left _ hq)
    obtain ⟨ys, h3, h4⟩ := hb μ1 H1 st1 p m hs fun q hq => hd q (List.mem_append_right _ hq)
    exact ⟨xs, ys, h1, h2, h3, h4⟩
  refine ⟨fun i μ1 H1 st1 d p m hs hd e => ?_, fun μ1 H1 st1 p m hs hd => ?_⟩
  · obtain ⟨xs, ys, h1, h2, h3, h4⟩ := key p m hs hd
    obtain ⟨x, y, e1, e2, rfl⟩ := zipL_get e
    obtain ⟨u, e3, r1⟩ := h2.get e1
    obtain ⟨v, e4, r2⟩ := h4.get e2
    refine ⟨⟨xs, ys, u, v, h1, h3, e3, e4⟩, fun w H' z => ?_⟩
    obtain ⟨T, u', v', rfl, hT, rfl, z1, z2⟩ := z
    have e5 := z1 xs h1
    rw [e3] at e5; cases e5
    have e6 := z2 ys h3
    rw [e4] at e6; cases e6
    exact pair_new hs hT r1 r2
  · obtain ⟨xs, ys, h1, h2, h3, h4⟩ := key p m hs hd
    refine ⟨xs, ys, h1, h3, ?_⟩
    rw [zipL_len, h2.length, h4.length]
    omega
theorem walks_zipT {K : PySem.W.Frag} {μ : List Addr} {H : Hp} {a b : Addr} {xs ys : List V} {ds es : List D} (h1 : SqT K H a xs) (h2 : RDs K H μ ds xs) (h3 : SqT K H b ys) (h4 : RDs K H μ es ys) : Walks K (RZ.ItzT K a b) (zipL ds es) [] μ H := by
  refine ⟨fun i μ1 H1 st1 d p m hs hd e => ?_, fun μ1 H1 st1 p m hs hd => ?_⟩
  · obtain ⟨x, y, e1, e2, rfl⟩ := zipL_get e
    obtain ⟨u, e3, r1⟩ := h2.get e1
    obtain ⟨v, e4, r2⟩ := h4.get e2
    refine ⟨⟨xs, ys, u, v, m.sqT h1, m.sqT h3, e3, e4⟩, fun w H' z => ?_⟩
    obtain ⟨T, u', v', rfl, hT, rfl, z1, z2⟩ := z
    have e5 := z1 xs (m.sqT h1)
    rw [e3] at e5; cases e5
    have e6 := z2 ys (m.sqT h3)
    rw [e4] at e6; cases e6
    exact pair_new hs hT (r1.mono m p) (r2.mono m p)
  · refine ⟨xs, ys, m.sqT h1, m.sqT h3, ?_⟩
    rw [zipL_len, h2.length, h4.length]
    omega
theorem sI_zip (hg : Gl X "zip") (hm : X.mg "zip" = none) (ha : PA X [a, b] (rdA X.K E ms)) (hs : starEach [a, b] X.env = (false, eval a X.env) :: starEach [b] X.env) (hpl : (backTo pos (starEach [b] X.env)).any (·.1) = false) :
    PI X (.Tuple elts kk tpos) (.Call (.Name "zip" p) [a, b] [] pos) (rdI X.K E ms .zip) :=
  imI (RZ.pi_zipA hg hm ha hs hpl) fun σ H Q ⟨μ, env, st, hs, he, h⟩ => by
    obtain ⟨y, s', e1, z⟩ := h
    cases y with
    | error er => exact ⟨μ, env, st, hs, he, _, s', e1, z⟩
    | ok ds0 =>
      refine ⟨μ, env, st, hs, he, _, s', e1, fun μ1 H1 x hs1 vs r => ?_⟩
      obtain ⟨is, g, e2, q⟩ := z μ1 H1 x hs1
      have e2 : itZip ds0 s' = some (is, g) := e2
      unfold itZip at e2
      split at e2
      · rename_i d1 d2 st1
        split at e2
        · rename_i hk
          split at e2
          · rename_i ds g1 es g2 e3 e4
            cases e2
            obtain ⟨v1, _, rfl, r1, v2, _, rfl, r2, rfl⟩ := r
            by_cases c1 : ∃ xs, d1 = .tup xs
            · obtain ⟨xs, rfl⟩ := c1
              have c2 : ∃ ys, d2 = .tup ys := by
                cases d2 <;> first | exact ⟨_, rfl⟩ | cases hk
              obtain ⟨ys, rfl⟩ := c2
              cases e3
              cases e4
              obtain ⟨a', vs1, rfl, h1, h2⟩ := r1
              obtain ⟨b', vs2, rfl, h3, h4⟩ := r2
              exact ⟨a', b', vs1, vs2, rfl, .inr ⟨h1, h3, q _ (walks_zipT h1 h2 h3 h4)⟩⟩
            · have c2 : ∀ ys, d2 ≠ .tup ys := fun ys e => by
                subst e
                cases d1 <;> first | exact c1 ⟨_, rfl⟩ | cases hk
              obtain ⟨a', rfl, hg1, w1⟩ := seqL_of hs1 r1 (fun xs e => c1 ⟨xs, e⟩) e3
              obtain ⟨b', rfl, hg2, w2⟩ := seqL_of hs1 r2 c2 e4
              obtain ⟨vs1, h1, _⟩ := w1 μ1 H1 s' (List.prefix_refl _) (Mono.refl _) hs1 hg1
              obtain ⟨vs2, h3, _⟩ := w2 μ1 H1 s' (List.prefix_refl _) (Mono.refl _) hs1 hg2
              exact ⟨a', b', vs1, vs2, rfl, .inl ⟨h1, h3, q _ (walks_zipL w1 w2)⟩⟩
          · cases e2
        · cases e2
      · cases e2
/-! ### reversed -/
theorem rev_get {ds : List D} {i : Nat} {d : D} (h : ds.reverse[i]? = some d) : i < ds.length ∧ ds[ds.length - 1 - i]? = some d := by
  have hi : i < ds.length := by
    have := (List.getElem?_eq_some_iff.mp h).1
    rwa [List.length_reverse] at this
  rw [List.getElem?_reverse hi] at h
  exact ⟨hi, h⟩
theorem walks_revL {K : PySem.W.Frag} {μ : List Addr} {H : Hp} {a : Addr} {ds : List D} {g : Grd} (ha : LsAt K μ H a ds g) {n : Nat} (hn : n = ds.length) : Walks K (Itv K a n) ds.reverse g μ H := by
  subst hn
  refine ⟨fun i μ1 H1 st1 d p m hs hd e => ?_, fun μ1 H1 st1 p m hs hd => by show ds.length ≤ ds.reverse.length; rw [List.length_reverse]; exact Nat.le_refl _⟩
  obtain ⟨xs, h1, h2⟩ := ha μ1 H1 st1 p m hs hd
  obtain ⟨hi, e⟩ := rev_get e
  obtain ⟨u, e3, r1⟩ := h2.get e
  refine ⟨⟨hi, xs, u, h1, e3⟩, fun w H' z => ?_⟩
  obtain ⟨rfl, z⟩ := z
  have e5 := z xs h1
  rw [e3] at e5; cases e5
  exact ⟨Ext.refl _ _, hs, r1⟩
theorem walks_revT {K : PySem.W.Frag} {μ : List Addr} {H : Hp} {a : Addr} {xs : List V} {ds : List D} (h1 : SqT K H a xs) (h2 : RDs K H μ ds xs) {n : Nat} (hn : n = ds.length) : Walks K (RT.ItvT K a n) ds.reverse [] μ H := by
  subst hn
  refine ⟨fun i μ1 H1 st1 d p m hs hd e => ?_, fun μ1 H1 st1 p m hs hd => by show ds.length ≤ ds.reverse.length; rw [List.length_reverse]; exact Nat.le_refl _⟩
  obtain ⟨hi, e⟩ := rev_get e
  obtain ⟨u, e3, r1⟩ := h2.get e
  refine ⟨⟨hi, xs, u, m.sqT h1, e3⟩, fun w H' z => ?_⟩
  obtain ⟨rfl, z⟩ := z
  have e5 := z xs (m.sqT h1)
  rw [e3] at e5; cases e5
  exact ⟨Ext.refl _ _, hs, r1.mono m p⟩
theorem sI_rev {tg : Expr} (hg : Gl X "reversed") (hm : X.mg "reversed" = none) (he : PE X a (rdE X.K E ma)) (hs : starEach [a] X.env = (false, eval a X.env) :: starEach [] X.env) :
    PI X tg (.Call (.Name "reversed" p) [a] [] pos) (rdI X.K E (consM ma fun _ st => ok [] st) .rev) :=
  imI (RT.pi_revA hg hm he hs) fun σ H Q ⟨μ, env, st, hs, he, h⟩ => by
    obtain ⟨y, s', e1, z⟩ := h.bnd
    cases y with
    | error er => exact ⟨μ, env, st, hs, he, _, s', e1, z⟩
    | ok d =>
      refine ⟨μ, env, st, hs, he, _, s', e1, fun μ1 H1 x hs1 v r => ?_⟩
      obtain ⟨is, g, e2, q⟩ := (z μ1 H1 x hs1).ok (Ext.refl _ _) hs1
      have e2 : itRev [d] s' = some (is, g) := e2
      unfold itRev at e2
      simp only at e2
      split at e2
      · rename_i ds g1 e3
        cases e2
        by_cases c1 : ∃ xs, d = .tup xs
        · obtain ⟨xs, rfl⟩ := c1
          cases e3
          obtain ⟨a', vs1, rfl, h1, h2⟩ := r
          exact ⟨a', vs1, rfl, .inr ⟨h1, q _ (walks_revT h1 h2 h2.length)⟩⟩
        · obtain ⟨a', rfl, hg1, w1⟩ := seqL_of hs1 r (fun xs e => c1 ⟨xs, e⟩) e3
          obtain ⟨vs1, h1, h2⟩ := w1 μ1 H1 s' (List.prefix_refl _) (Mono.refl _) hs1 hg1
          exact ⟨a', vs1, rfl, .inl ⟨h1, q _ (walks_revL w1 h2.length)⟩⟩
      · cases e2
theorem rng3_ok {i j c : Int} (hc : c ≠ 0) (hi : -RB ≤ i ∧ i < RB) (hj : -RB ≤ j ∧ j < RB) (hcb : -1000000000 < c ∧ c < 1000000000) : RgC i j c (rng3N i j c) := by
  unfold RB at hi hj
  have e : Builtin.Range.rangeSize i j c = ((Builtin.Range.rangeSize i j c).toNat : Int) := PyProof.Rows.rangeSize_toNat i j c
  have hle : (Builtin.Range.rangeSize i j c).toNat ≤ (j - i).toNat + (i - j).toNat := PyProof.Rows.rangeSize_toNat_le i j c
  refine ⟨hc, by omega, ?_, e⟩
  unfold Builtin.Range.small
  simp only [Builtin.Range.rangeFitsLong, Bool.and_eq_true, Bool.or_eq_true, decide_eq_true_eq, beq_iff_eq]
  refine ⟨⟨⟨⟨⟨by omega, by omega⟩, by omega, by omega⟩, by omega, by omega⟩, by omega, by omega⟩, .inr ?_⟩
  split
  · simp only [Bool.and_eq_true, decide_eq_true_eq]; omega
  · simp only [Bool.and_eq_true, decide_eq_true_eq]; omega
theorem range3_get {lo c : Int} {n i : Nat} {d : D} (h : (range3L lo c n)[i]? = some d) : i < n ∧ d = .int (lo + (i : Nat) * c) := by
  unfold range3L at h
  rw [List.getElem?_map] at h
  cases e : (List.range n)[i]? with
  | none => rw [e] at h; cases h
  | some j =>
    rw [e] at h
    obtain ⟨h1, h2⟩ := List.getElem?_eq_some_iff.mp e
    rw [List.getElem_range] at h2
    rw [List.length_range] at h1
    subst h2
    exact ⟨h1, (Option.some.inj h).symm⟩
theorem walks_rng3 {K : PySem.W.Frag} {μ : List Addr} {H : Hp} {lo c : Int} {n : Nat} : Walks K (Itc lo c n) (range3L lo c n) [] μ H := by
  refine ⟨fun i μ1 H1 st1 d p m hs _ e => ?_, fun μ1 H1 st1 p m hs _ => ?_⟩
  · obtain ⟨h1, rfl⟩ := range3_get e
    refine ⟨h1, fun w H' y => ?_⟩
    obtain ⟨rfl, rfl⟩ := y
    exact ⟨Ext.refl _ _, hs, rfl⟩
  · unfold range3L
    rw [List.length_map, List.length_range]
    exact Nat.le_refl _
theorem sI_range3 {tg : Expr} (hg : Gl X "range") (hm : X.mg "range" = none) (ha : PA X [a, b, d] (rdA X.K E ms)) (hst : starEach [a, b, d] X.env = (false, eval a X.env) :: starEach [b, d] X.env) (hpl : (backTo pos (starEach [b, d] X.env)).any (·.1) = false) : PI X tg (.Call (.Name "range" p) [a, b, d] [] pos) (rdI X.K E ms .rng3) :=
  imI (pi_range3 hg hm ha hst hpl) fun σ H Q ⟨μ, env, st, hs, he, h⟩ => by
    refine ⟨μ, env, st, hs, he, h.imp fun ds st1 μ1 H1 x hs1 h1 vs rs => ?_⟩
    obtain ⟨is, g, e1, q⟩ := h1
    have e1 : itRng3 ds = some (is, g) := e1
    unfold itRng3 at e1
    split at e1
    · split at e1
      · rename_i c
        cases e1
        obtain ⟨v, _, rfl, r, w, _, rfl, r2, u, _, rfl, r3, rfl⟩ := rs
        exact ⟨_, _, _, _, by rw [show v = _ from r, show w = _ from r2, show u = _ from r3], rng3_ok c.1 c.2.1 c.2.2.1 c.2.2.2, q _ walks_rng3⟩
      · cases e1
    · cases e1
/-! ### list(range(..)) -/
def rg3V (i c : Int) (n : Nat) : List V := (List.range n).map fun k => V.int (i + (k : Nat) * c)
theorem rg3_rd {K : PySem.W.Frag} {H : Hp} {μ : List Addr} (i c : Int) : ∀ l : List Nat, RDs K H μ (l.map fun k => D.int (i + (k : Nat) * c)) (l.map fun k => V.int (i + (k : Nat) * c))
  | [] => rfl
  | k :: l => ⟨_, _, rfl, rfl, rg3_rd i c l⟩
theorem vals_rg3 {i c : Int} {n : Nat} {acc : Array Value} (h : ItemsOf (fun k v => ∃ t, v = .int (i + k * c) t) acc n) : Vals (rg3V i c n) acc.toList := by
  have e : acc.toList.length = n := by rw [Array.length_toList]; exact h.1
  unfold rg3V
  rw [← e]
  refine vals_of_get acc.toList _ fun j u hj => ?_
  obtain ⟨t, rfl⟩ := h.2 j u (by rw [← hj, Array.getElem?_toList])
  exact ⟨t, rfl⟩
/-- the arguments of range, by values -/
def rgA (vs : List V) (i j c : Int) : Prop := (vs = [.int j] ∧ i = 0 ∧ c = 1) ∨ (vs = [.int i, .int j] ∧ c = 1) ∨ vs = [.int i, .int j, .int c]
def tLrg (t : TA) : TE := fun σ H Q => t σ H fun vs H1 => ∃ i j c n, rgA vs i j c ∧ RgC i j c n ∧ n ≤ LINE ∧ ∀ q, H1 q = none → Q (.ref q) (upd H1 q (.lst (rg3V i c n)))
theorem pe_lrg {e : Expr} {es : List Expr} {t : TA} {p pos lp lpos : Pos} (hc : X.calm = true) (hl : Gl X "list") (hlm : X.mg "list" = none) (hg : Gl X "range") (hm : X.mg "range" = none) (ha : PA X (e :: es) t)
    (hs : starEach (e :: es) X.env = (false, eval e X.env) :: starEach es X.env) (hpl : (backTo pos (starEach es X.env)).any (·.1) = false) :
    PE X (.Call (.Name "list" lp) [.Call (.Name "range" p) (e :: es) [] pos] [] lpos) (tLrg t) := by
  refine ⟨fun pins s σ H Q I h => ?_⟩
  refine Call_ (ld_blt I hl hlm boot_list (PyProof.Rows.callWith_type1 (args_cons (wpAny_mono (Q := fun x s' => ∃ r i j c t u v n H1, x = .ref r ∧ IsRange s'.heap r i j c t u v ∧ Inv X pins σ H1 s' ∧ RgC i j c n ∧ n ≤ LINE ∧ ∀ q, H1 q = none → Q (.ref q) (upd H1 q (.lst (rg3V i c n)))) ?_ (fun x s1 ⟨r, i, j, c, t, u, v, n, H1, ex, hr, I1, ok, hn, q⟩ => args_nil ?_) fun _ _ z => z) rfl) rfl))
  · refine Call_ (ld_blt I hg hm boot_range (PyProof.Rows.callWith_type1 (thn (ha.run pos pins s σ H _ I h) fun us s1 ⟨vs, H1, I1, r1, q1⟩ => ?_) hs hpl))
    obtain ⟨i, j, c, n, hv, ok, hn, q⟩ := q1
    rcases hv with ⟨rfl, rfl, rfl⟩ | ⟨rfl, rfl⟩ | rfl
    · cases r1 with
      | cons r rr =>
        cases rr
        obtain ⟨t, rfl⟩ := r
        exact call_range_1 ⟨_, 0, j, 1, _, _, _, n, H1, rfl, IsRange.new _ _ _ _ _ _ _, I1.kept fun b u e => Heap.get?_push_of_some _ e, ok, hn, q⟩
    · cases r1 with
      | cons r rr =>
        cases rr with
        | cons r' rr =>
          cases rr
          obtain ⟨t, rfl⟩ := r
          obtain ⟨t', rfl⟩ := r'
          exact call_range_2 ⟨_, i, j, 1, _, _, _, n, H1, rfl, IsRange.new _ _ _ _ _ _ _, I1.kept fun b u e => Heap.get?_push_of_some _ e, ok, hn, q⟩
    · cases r1 with
      | cons r rr =>
        cases rr with
        | cons r' rr =>
          cases rr with
          | cons r'' rr =>
            cases rr
            obtain ⟨t, rfl⟩ := r
            obtain ⟨t', rfl⟩ := r'
            obtain ⟨t'', rfl⟩ := r''
            exact call_range_3 ok.1 ⟨_, i, j, c, _, _, _, n, H1, rfl, IsRange.new _ _ _ _ _ _ _, I1.kept (t' := s1.toks) fun b u e => Heap.get?_push_of_some _ e, ok, hn, q⟩ (.inl (PyProof.noPylong_small ok.2.1))
  · subst ex
    obtain ⟨c0, c1, c2, c3⟩ := ok
    refine call_list_range (n := n) (I1.ok.hd hc) hr c2 c3 hn fun h' tk acc c' hk e' hi => ?_
    refine ⟨.ref s1.heap.objs.size, upd H1 s1.heap.objs.size (.lst (rg3V i c n)), I1.laid hk (Nat.le_refl _) (show ObjOk X.prog X.w _ _ _ (.lst (rg3V i c n)) from ⟨?_, acc.toList, c', vals_rg3 hi, ?_⟩), rfl, q _ (I1.hok.fresh (Nat.le_refl _))⟩
    · unfold rg3V; rw [List.length_map, List.length_range, ← line_eq]; exact hn
    · rw [Array.toArray_toList]; exact e'
theorem rng3N1 (i j : Int) : rng3N i j 1 = (j - i).toNat := by
  unfold rng3N
  rw [if_pos (by omega)]
  split <;> omega
theorem range3L1 (i : Int) (n : Nat) : range3L i 1 n = rangeL i n := by
  unfold range3L rangeL
  simp
/-- the range of a kind -/
def isRng : IK → Bool
  | .rng1 => true
  | .rng2 => true
  | .rng3 => true
  | _ => false
theorem rng_of {k : IK} {ds : List D} {st : Sto} {is : List D} {g : Grd} (hk : isRng k = true) (h : items k ds st = some (is, g)) : ∃ i j c : Int, (ds = [.int j] ∧ i = 0 ∧ c = 1 ∨ ds = [.int i, .int j] ∧ c = 1 ∨ ds = [.int i, .int j, .int c]) ∧ RgC i j c (rng3N i j c) ∧ is = range3L i c (rng3N i j c) := by
  cases k with
  | rng1 =>
    replace h : itRng1 ds = some (is, g) := h
    unfold itRng1 at h
    split at h
    · split at h
      · rename_i j c
        cases h
        refine ⟨0, j, 1, .inl ⟨rfl, rfl, rfl⟩, rng3_ok (by decide) (by unfold RB at *; omega) c (by omega), ?_⟩
        rw [rng3N1, range3L1]
        congr 1
        omega
      · cases h
    · cases h
  | rng2 =>
    replace h : itRng2 ds = some (is, g) := h
    unfold itRng2 at h
    split at h
    · split at h
      · rename_i i j c
        cases h
        refine ⟨i, j, 1, .inr (.inl ⟨rfl, rfl⟩), rng3_ok (by decide) c.1 c.2 (by omega), ?_⟩
        rw [rng3N1, range3L1]
      · cases h
    · cases h
  | rng3 =>
    replace h : itRng3 ds = some (is, g) := h
    unfold itRng3 at h
    split at h
    · split at h
      · rename_i i j c q
        cases h
        exact ⟨i, j, c, .inr (.inr rfl), rng3_ok q.1 q.2.1 q.2.2.1 q.2.2.2, rfl⟩
      · cases h
    · cases h
  | _ => cases hk
theorem sE_lrg {e : Expr} {es : List Expr} {k : IK} {p pos lp lpos : Pos} (hk : isRng k = true) (hc : X.calm = true) (hl : Gl X "list") (hlm : X.mg "list" = none) (hg : Gl X "range") (hm : X.mg "range" = none) (ha : PA X (e :: es) (rdA X.K E ms))
    (hs : starEach (e :: es) X.env = (false, eval e X.env) :: starEach es X.env) (hpl : (backTo pos (starEach es X.env)).any (·.1) = false) :
    PE X (.Call (.Name "list" lp) [.Call (.Name "range" p) (e :: es) [] pos] [] lpos) (rdE X.K E fun σ st => bnd (ms σ st) fun ds st => match items k ds st with
      | some (is, _) => if is.length ≤ LINE then alloc (.lst is) st else none
      | none => none) :=
  imE (pe_lrg hc hl hlm hg hm ha hs hpl) fun σ H Q ⟨μ, env, st, hs, he, h⟩ => by
    refine ⟨μ, env, st, hs, he, h.bnd.imp fun ds st1 μ1 H1 x hs1 h1 vs rs => ?_⟩
    split at h1
    · rename_i is g e1
      obtain ⟨hl, h2⟩ := h1.ite
      obtain ⟨i, j, c, hv, ok, rfl⟩ := rng_of hk e1
      have hn : rng3N i j c ≤ LINE := by unfold range3L at hl; rw [List.length_map, List.length_range] at hl; exact hl
      refine ⟨i, j, c, _, ?_, ok, hn, fun q hq => h2.ok (Ext.push hq) (hs1.push hq (rg3_rd i c _)) _ ⟨q, rfl, by rw [← hs1.len]; simp⟩⟩
      rcases hv with ⟨rfl, h2, h3⟩ | ⟨rfl, h3⟩ | rfl
      · obtain ⟨v, _, rfl, r, rfl⟩ := rs
        exact .inl ⟨by rw [show v = _ from r], h2, h3⟩
      · obtain ⟨v, _, rfl, r, w, _, rfl, r2, rfl⟩ := rs
        exact .inr (.inl ⟨by rw [show v = _ from r, show w = _ from r2], h3⟩)
      · obtain ⟨v, _, rfl, r, w, _, rfl, r2, u, _, rfl, r3, rfl⟩ := rs
        exact .inr (.inr (by rw [show v = _ from r, show w = _ from r2, show u = _ from r3]))
    · exact h1.none.elim
end
end MP

set_option Elab.async false
set_option linter.all false
set_option maxRecDepth 100000
set_option maxHeartbeats 2000000
namespace MP
open PySem PySem.Spec PyProof.Rows L2
variable [Gb]

/-! ### while -/
section
variable {X : Cx} {E : XK}
theorem whl_of {K : PySem.W.Frag} {mc : Env → Sto → R D} {mb : Env → Sto → R Fl} {Dn : Ends} {σ : L2.St} {H : Hp} (h : rdS K E (fun σ st => whl mc mb σ st) Dn σ H) : tWhile (rdT K (kE E) mc) (rdS K E mb) Dn σ H := by
  obtain ⟨μ, env, st, hs, he, x, st', e, h⟩ := h
  obtain ⟨n, hn⟩ := whl_N env st (x, st') e
  refine ⟨fun m σ H => ∃ μ env st, RSt K H μ st ∧ REnv K H μ env σ ∧ Aft K E μ H (whlN mc mb m env st) (KF K Dn), ⟨n, μ, env, st, hs, he, x, st', hn, h⟩, ?_⟩
  clear h hn e he hs
  rintro m σ H ⟨μ, env, st, hs, he, h⟩
  cases m with
  | zero => exact h.none.elim
  | succ m =>
    unfold whlN at h
    unfold whlS at h
    cases ec : mc env st with
    | none => rw [ec] at h; exact h.none.elim
    | some p =>
      obtain ⟨y, st1⟩ := p
      rw [ec] at h
      cases y with
      | error er =>
        refine ⟨μ, env, st, hs, he, .error er, st1, ec, ?_⟩
        obtain ⟨y, s', e1, z⟩ := h
        cases e1
        exact z
      | ok d =>
        refine ⟨μ, env, st, hs, he, .ok d, st1, ec, fun μ1 H1 x1 hs1 => ?_⟩
        have h1 := h.at x1
        cases d with
        | bl c =>
          cases c with
          | false => exact ⟨false, rfl, iteF (h1.ok (Ext.refl _ _) hs1 σ (he.mono x1))⟩
          | true =>
            refine ⟨true, rfl, iteT ⟨fun σ' H' => ∃ μ env st, RSt K H' μ st ∧ REnv K H' μ env σ' ∧ Aft K E μ H' (whlN mc mb m env st) (KF K Dn), fun σ' H' w => ⟨m, Nat.lt_succ_self m, w⟩, μ1, env, st1, hs1, he.mono x1, ?_⟩⟩
            dsimp only at h1
            cases eb : mb env st1 with
            | none => rw [eb] at h1; exact h1.none.elim
            | some q =>
              obtain ⟨y, st2⟩ := q
              rw [eb] at h1
              cases y with
              | error er =>
                refine ⟨.error er, st2, rfl, ?_⟩
                obtain ⟨y, s', e1, z⟩ := h1
                cases e1
                exact z
              | ok f =>
                refine ⟨.ok f, st2, rfl, fun μ2 H2 x2 hs2 => ?_⟩
                have h2 := h1.at x2
                cases f with
                | nx env2 => exact fun σ2 he2 => ⟨μ2, env2, st2, hs2, he2, h2⟩
                | ct env2 => exact fun σ2 he2 => ⟨μ2, env2, st2, hs2, he2, h2⟩
                | bk env2 => exact fun σ2 he2 => h2.ok (Ext.refl _ _) hs2 σ2 he2
                | rt d => exact fun v rv => h2.ok (Ext.refl _ _) hs2 v rv
        | _ => exact h1.none.elim
theorem sS_whl {c : Expr} {body : List Stmt} {pos : Pos} {mc : Env → Sto → R D} {mb : Env → Sto → R Fl} (hp : PassesOwn (model X.prog X.w) X.A X.env X.xe) (hc : PT X c (rdT X.K (kE E) mc)) (hb : PSs X body (rdS X.K E mb)) :
    PS X (.While c body [] pos) (rdS X.K E fun σ st => whl mc mb σ st) := imS (ps_while hp hc hb) fun Dn σ H h => whl_of h

/-! ### small statements -/
variable {e : Expr} {pos : Pos} {m : Env → Sto → R D} {ms : Env → Sto → R (List D)} {s : Stmt} {ss : List Stmt} {mf mf' : Env → Sto → R Fl}
theorem sS_expr (he : PE X e (rdE X.K (kE E) m)) (hs : swapsWith e none pos.line X.env = pure false) (hq : interactive X.env = false → True := fun _ => trivial) : PS X (.Expr e pos) (rdS X.K E fun σ st => bnd (m σ st) fun _ st => ok (.nx σ) st) :=
  imS (ps_expr he hs) fun Dn σ H ⟨μ, env, st, hs, he, h⟩ => ⟨μ, env, st, hs, he, h.bnd.imp fun d st1 μ1 H1 x hs1 h1 v rv => h1.ok (Ext.refl _ _) hs1 σ (he.mono x)⟩
theorem sS_ret (he : PE X e (rdE X.K (kE E) m)) : PS X (.Return (some e) pos) (rdS X.K E fun σ st => bnd (m σ st) fun d st => ok (.rt d) st) :=
  imS (ps_ret he) fun Dn σ H ⟨μ, env, st, hs, he, h⟩ => ⟨μ, env, st, hs, he, h.bnd.imp fun d st1 μ1 H1 x hs1 h1 v rv => h1.ok (Ext.refl _ _) hs1 v rv⟩
theorem sS_retN : PS X (.Return none pos) (rdS X.K E fun _ st => ok (.rt .non) st) :=
  imS ps_retN fun Dn σ H ⟨μ, env, st, hs, he, h⟩ => h.ok (Ext.refl _ _) hs _ rfl
theorem sS_pass : PS X (.Pass pos) (rdS X.K E fun σ st => ok (.nx σ) st) :=
  imS ps_pass fun Dn σ H ⟨μ, env, st, hs, he, h⟩ => h.ok (Ext.refl _ _) hs _ he
theorem sS_brk : PS X (.Break pos) (rdS X.K E fun σ st => ok (.bk σ) st) :=
  imS ps_break fun Dn σ H ⟨μ, env, st, hs, he, h⟩ => h.ok (Ext.refl _ _) hs _ he
theorem sS_cnt : PS X (.Continue pos) (rdS X.K E fun σ st => ok (.ct σ) st) :=
  imS ps_continue fun Dn σ H ⟨μ, env, st, hs, he, h⟩ => h.ok (Ext.refl _ _) hs _ he
theorem sS_ife {c : Expr} {a b : List Stmt} (hc : PT X c (rdT X.K (kE E) m)) (ha : PSs X a (rdS X.K E mf)) (hb : PSs X b (rdS X.K E mf')) : PS X (.If c a b pos) (rdS X.K E (iteM m mf mf')) :=
  imS (ps_if hc ha hb) fun Dn σ H ⟨μ, env, st, hs, he, h⟩ => by
    refine ⟨μ, env, st, hs, he, h.bnd.imp fun d st1 μ1 H1 x hs1 h1 => ?_⟩
    split at h1
    · exact ⟨true, rfl, iteT ⟨μ1, env, st1, hs1, he.mono x, h1⟩⟩
    · exact ⟨false, rfl, iteF ⟨μ1, env, st1, hs1, he.mono x, h1⟩⟩
    · exact h1.none.elim
theorem sB_nil : PSs X [] (rdS X.K E fun σ st => ok (.nx σ) st) :=
  imSs pss_nil fun Dn σ H ⟨μ, env, st, hs, he, h⟩ => h.ok (Ext.refl _ _) hs _ he
theorem sB_cons (h1 : PS X s (rdS X.K E mf)) (h2 : PSs X ss (rdS X.K E mf')) : PSs X (s :: ss) (rdS X.K E fun σ st => bnd (mf σ st) fun f st => match f with
    | .nx σ' => mf' σ' st
    | f => ok f st) :=
  imSs (pss_cons h1 h2) fun Dn σ H ⟨μ, env, st, hs, he, h⟩ => by
    refine ⟨μ, env, st, hs, he, h.bnd.imp fun f st1 μ1 H1 x hs1 h1 => ?_⟩
    cases f with
    | nx env1 => exact fun σ1 he1 => ⟨μ1, env1, st1, hs1, he1, h1⟩
    | bk env1 => exact fun σ1 he1 => h1.ok (Ext.refl _ _) hs1 σ1 he1
    | ct env1 => exact fun σ1 he1 => h1.ok (Ext.refl _ _) hs1 σ1 he1
    | rt d => exact fun v rv => h1.ok (Ext.refl _ _) hs1 v rv
theorem asg_of {K : PySem.W.Frag} {sl : List Nat} {gf : D → Env → Option Env} {Dn : Ends} {σ : L2.St} {H : Hp} (h : rdS K E (fun σ st => bnd (m σ st) fun d st => match gf d σ with
    | some σ' => ok (.nx σ') st
    | none => none) Dn σ H) : tAsg (rdE K (kE E) m) (rdG K sl gf) Dn σ H := by
  obtain ⟨μ, env, st, hs, he, h⟩ := h
  refine ⟨μ, env, st, hs, he, h.bnd.imp fun d st1 μ1 H1 x hs1 h1 v rv => ?_⟩
  split at h1
  · rename_i env1 e1
    exact ⟨μ1, env, d, env1, rv, he.mono x, e1, fun σ1 _ he1 => h1.ok (Ext.refl _ _) hs1 σ1 he1⟩
  · exact h1.none.elim
theorem sS_asg {sl : List Nat} {tg : Expr} {gf : D → Env → Option Env} (he : PE X e (rdE X.K (kE E) m)) (hg : PG X tg (rdG X.K sl gf)) (hs : swapsWithSole [tg] e pos.line X.env = pure false) (hw : swappedStores [tg] e X.env = pure none)
    (h1 : (assignEach [tg] X.env).map (·.2) = [assign tg X.env]) : PS X (.Assign [tg] e pos) (rdS X.K E fun σ st => bnd (m σ st) fun d st => match gf d σ with
    | some σ' => ok (.nx σ') st
    | none => none) := imS (ps_asg he hg hs hw h1) fun Dn σ H h => asg_of h
theorem sS_set {i : Nat} {x : Str} {pos' : Pos} (hN : X.N.Nodup) (hi : X.N[i]? = some x) (hx : Loc X.env.scope x) (he : PE X e (rdE X.K (kE E) m)) (hs : swapsWith e (some (.Name x pos')) pos.line X.env = pure false) (hf : X.fn x = true ∨ X.env.scope.names.lookup x = some .local) :
    PS X (.Assign [.Name x pos'] e pos) (rdS X.K E fun σ st => bnd (m σ st) fun d st => ok (.nx (σ.set i (some d))) st) :=
  imS (ps_set hN hi hx he hs hf) fun Dn σ H ⟨μ, env, st, hs, he, h⟩ => ⟨μ, env, st, hs, he, h.bnd.imp fun d st1 μ1 H1 x hs1 h1 v rv => h1.ok (Ext.refl _ _) hs1 _ ((he.mono x).set i rv)⟩
theorem setAll2 {i j : Nat} {ds : List D} {σ σ' : MP.Env} (h : setAll [i, j] ds σ = some σ') : ∃ d1 d2, ds = [d1, d2] ∧ σ' = (σ.set i (some d1)).set j (some d2) := by
  match ds, h with
  | [d1, d2], h => exact ⟨d1, d2, rfl, (Option.some.inj h).symm⟩
  | [], h => cases h
  | [_], h => cases h
  | _ :: _ :: _ :: _, h => cases h
theorem setAll3 {i j l : Nat} {ds : List D} {σ σ' : MP.Env} (h : setAll [i, j, l] ds σ = some σ') : ∃ d1 d2 d3, ds = [d1, d2, d3] ∧ σ' = ((σ.set i (some d1)).set j (some d2)).set l (some d3) := by
  match ds, h with
  | [d1, d2, d3], h => exact ⟨d1, d2, d3, rfl, (Option.some.inj h).symm⟩
  | [], h => cases h
  | [_], h => cases h
  | [_, _], h => cases h
  | _ :: _ :: _ :: _ :: _, h => cases h
theorem sS_par2 {i j : Nat} {x y : Str} {a b : Expr} {px py pt : Pos} {kt k2 pt2} (hc : X.calm = true) (hN : X.N.Nodup) (hi : X.N[i]? = some x) (hj : X.N[j]? = some y) (hij : i ≠ j)
    (hx : X.env.scope.names.lookup x = some .local) (hy : X.env.scope.names.lookup y = some .local) (ha : PA X [a, b] (rdA X.K (kE E) ms))
    (hw : swappedStores [.Tuple [.Name x px, .Name y py] kt pt] (.Tuple [a, b] k2 pt2) X.env = pure (some [x, y])) (hs : swapsWithSole [.Tuple [.Name x px, .Name y py] kt pt] (.Tuple [a, b] k2 pt2) pos.line X.env = pure false) :
    PS X (.Assign [.Tuple [.Name x px, .Name y py] kt pt] (.Tuple [a, b] k2 pt2) pos) (rdS X.K E fun σ st => bnd (ms σ st) fun ds st => match setAll [i, j] ds σ with
    | some σ' => ok (.nx σ') st
    | none => none) :=
  imS (ps_par hc hN hi hj hij hx hy ha hw hs) fun Dn σ H ⟨μ, env, st, hs, he, h⟩ => by
    refine ⟨μ, env, st, hs, he, h.bnd.imp fun ds st1 μ1 H1 x hs1 h1 vs rs => ?_⟩
    split at h1
    · rename_i env1 e1
      obtain ⟨d1, d2, rfl, rfl⟩ := setAll2 e1
      obtain ⟨v, _, rfl, r1, w, _, rfl, r2, rfl⟩ := rs
      exact ⟨v, w, rfl, h1.ok (Ext.refl _ _) hs1 _ (((he.mono x).set i r1).set j r2)⟩
    · exact h1.none.elim
theorem sS_par3 {i j l : Nat} {x y z : Str} {a b c : Expr} {px py pz pt : Pos} {kt k2 pt2} (hc : X.calm = true) (hN : X.N.Nodup) (hi : X.N[i]? = some x) (hj : X.N[j]? = some y) (hl : X.N[l]? = some z) (hij : i ≠ j) (hil : i ≠ l) (hjl : j ≠ l)
    (hx : X.env.scope.names.lookup x = some .local) (hy : X.env.scope.names.lookup y = some .local) (hz : X.env.scope.names.lookup z = some .local) (ha : PA X [a, b, c] (rdA X.K (kE E) ms))
    (hw : swappedStores [.Tuple [.Name x px, .Name y py, .Name z pz] kt pt] (.Tuple [a, b, c] k2 pt2) X.env = pure (some [x, y, z])) (hs : swapsWithSole [.Tuple [.Name x px, .Name y py, .Name z pz] kt pt] (.Tuple [a, b, c] k2 pt2) pos.line X.env = pure false) :
    PS X (.Assign [.Tuple [.Name x px, .Name y py, .Name z pz] kt pt] (.Tuple [a, b, c] k2 pt2) pos) (rdS X.K E fun σ st => bnd (ms σ st) fun ds st => match setAll [i, j, l] ds σ with
    | some σ' => ok (.nx σ') st
    | none => none) :=
  imS (ps_par3 hc hN hi hj hl hij hil hjl hx hy hz ha hw hs) fun Dn σ H ⟨μ, env, st, hs, he, h⟩ => by
    refine ⟨μ, env, st, hs, he, h.bnd.imp fun ds st1 μ1 H1 x hs1 h1 vs rs => ?_⟩
    split at h1
    · rename_i env1 e1
      obtain ⟨d1, d2, d3, rfl, rfl⟩ := setAll3 e1
      obtain ⟨v, _, rfl, r1, w, _, rfl, r2, u, _, rfl, r3, rfl⟩ := rs
      exact ⟨v, w, u, rfl, h1.ok (Ext.refl _ _) hs1 _ ((((he.mono x).set i r1).set j r2).set l r3)⟩
    · exact h1.none.elim
/-- o[i] = e -/
theorem any_keys {kvs : List (Key × D)} {ws : List (Key × V)} (k : Key) (e : kvs.map (·.1) = ws.map (·.1)) : (kvs.any fun kv => decide (kv.1 = k)) = ws.any fun kv => decide (kv.1 = k) := by
  have h1 : (kvs.map (·.1)).any (fun x => decide (x = k)) = kvs.any fun kv => decide (kv.1 = k) := by rw [List.any_map]; rfl
  have h2 : (ws.map (·.1)).any (fun x => decide (x = k)) = ws.any fun kv => decide (kv.1 = k) := by rw [List.any_map]; rfl
  rw [← h1, ← h2, e]
theorem repl_rd {K : PySem.W.Frag} {H : Hp} {μ : List Addr} {d : D} {v : V} (q : RD K H μ d v) (k : Key) : ∀ {kvs : List (Key × D)} {ws : List (Key × V)}, kvs.map (·.1) = ws.map (·.1) → RDs K H μ (kvs.map (·.2)) (ws.map (·.2)) →
    (kvs.map fun kv => if kv.1 = k then (kv.1, d) else kv).map (·.1) = (ws.map fun kv => if kv.1 = k then (kv.1, v) else kv).map (·.1) ∧ RDs K H μ ((kvs.map fun kv => if kv.1 = k then (kv.1, d) else kv).map (·.2)) ((ws.map fun kv => if kv.1 = k then (kv.1, v) else kv).map (·.2))
  | [], [], _, _ => ⟨rfl, rfl⟩
  | [], _ :: _, e, _ => by cases e
  | _ :: _, [], e, _ => by cases e
  | (k0, d0) :: kvs, (k1, v1) :: ws, e, r => by
    obtain ⟨e1, e2⟩ := List.cons.inj e
    have e1 : k0 = k1 := e1
    subst e1
    obtain ⟨v', vs, ev, r1, r2⟩ := r
    obtain ⟨e3, e4⟩ := List.cons.inj ev
    have e3 : v1 = v' := e3
    subst e3
    have e4 : ws.map (·.2) = vs := e4
    subst e4
    obtain ⟨h1, h2⟩ := repl_rd q k e2 r2
    by_cases c : k0 = k
    · simp only [List.map_cons, if_pos c]
      exact ⟨by rw [h1], .cons q h2⟩
    · simp only [List.map_cons, if_neg c]
      exact ⟨by rw [h1], .cons r1 h2⟩
theorem dput_rd {K : PySem.W.Frag} {H : Hp} {μ : List Addr} {d : D} {v : V} (q : RD K H μ d v) (k : Key) {kvs : List (Key × D)} {ws : List (Key × V)} (e : kvs.map (·.1) = ws.map (·.1)) (r : RDs K H μ (kvs.map (·.2)) (ws.map (·.2))) :
    (dput kvs k d).map (·.1) = (putK ws k v).map (·.1) ∧ RDs K H μ ((dput kvs k d).map (·.2)) ((putK ws k v).map (·.2)) := by
  unfold dput putK
  rw [any_keys k e]
  split
  · exact repl_rd q k e r
  · rw [List.map_append, List.map_append, List.map_append, List.map_append, e]
    exact ⟨rfl, r.append (.one q)⟩
def rSetD : V → V → V → Hp → (Hp → Prop) → Prop := fun o i v H Q => ∃ a H', o = .ref a ∧ DPut H a i v H' ∧ Q H'
theorem set_dict {X : Cx} (hu : X.A.units + 64 < cLine) : PSet X rSetD := by
  intro pins s σ H o i v ov iv u Q I ro ri rv h
  obtain ⟨a, H', rfl, g, q⟩ := h
  cases ro
  have hu1 : X.A.units + 1 < cLine := by omega
  exact d_setItem hu1 I g ri rv fun s' I' => ⟨_, I', q⟩
theorem PSet.or {X : Cx} {r r' : V → V → V → Hp → (Hp → Prop) → Prop} (h : PSet X r) (h' : PSet X r') : PSet X fun o i v H Q => r o i v H Q ∨ r' o i v H Q := by
  intro pins s σ H o i v ov iv u Q I ro ri rv q
  rcases q with q | q
  · exact h pins s σ H o i v ov iv u Q I ro ri rv q
  · exact h' pins s σ H o i v ov iv u Q I ro ri rv q
/-- a store into a dict, by values -/
theorem setK_of {K : PySem.W.Frag} {H : Hp} {μ : List Addr} {st st' : Sto} {n : Nat} {kvs : List (Key × D)} {k : Key} {a : Addr} {d : D} {v : V} (hs : RSt K H μ st) (ha : μ[n]? = some a) (ro : RO K H μ (.dic kvs) a) (q : RD K H μ d v) (h : setK n kvs k d st = some st') :
    ∃ H', DPut H a (kV k) v H' ∧ Ext μ H μ H' ∧ RSt K H' μ st' := by
  unfold setK at h
  split at h
  · rename_i c
    cases h
    obtain ⟨ws, h1, h3, h2⟩ := ro
    obtain ⟨g1, g2⟩ := dput_rd q k h3 h2
    have hl : kvs.length = ws.length := by
      have := congrArg List.length h3
      simpa using this
    have n1 : ∀ xs : List V, HO.dK ws ≠ .tup xs := fun _ z => by cases z
    have n2 : ∀ o x, HO.dK ws ≠ .frz o x := fun _ _ z => by cases z
    have n3 : ∀ ps, HO.dK ws ≠ .tbl ps := fun _ z => by cases z
    exact ⟨_, DPut.k h1 (by rw [← hl, ← line_eq]; exact c), Ext.setO ha h1 n1 n2, hs.setO ha h1 n1 n2 n3 ⟨_, upd_same, g1, g2.mono (Mono.mut h1 n1 n2) (List.prefix_refl _)⟩⟩
  · cases h
theorem sS_setIx {o i : Expr} {p : Pos} {mo mi : Env → Sto → R D} (he : PE X e (rdE X.K (kE E) m)) (ho : PE X o (rdE X.K (kE E) mo)) (hi : PE X i (rdE X.K (kE E) mi)) (hu : X.A.units + 64 < cLine) (ha : ∀ v, assign (.Subscript o i p) X.env v = (do
      let ov ← holding [v] (eval o X.env)
      let iv ← holding [v, ov] (eval i X.env)
      standAt p
      holding [v, ov, iv] (setItem ov iv v)
      release [v, ov, iv] [])) (hs : swapsWithSole [.Subscript o i p] e pos.line X.env = pure false) (hw : swappedStores [.Subscript o i p] e X.env = pure none)
    (h1 : (assignEach [.Subscript o i p] X.env).map (·.2) = [assign (.Subscript o i p) X.env]) : PS X (.Assign [.Subscript o i p] e pos) (rdS X.K E fun σ st => bnd (m σ st) fun d st => bnd (mo σ st) fun x st => bnd (mi σ st) fun k st => match setIxop x k d st with
    | some st' => ok (.nx σ) st'
    | none => none) :=
  imS (ps_asg he (pg_sub ho hi (PSet.or set_list (set_dict hu)) ha) hs hw h1) fun Dn σ H ⟨μ, env, st, hs, he, h⟩ => by
    refine ⟨μ, env, st, hs, he, h.bnd.imp fun d st1 μ1 H1 x1 hs1 h1 v rv => ?_⟩
    refine ⟨μ1, env, st1, hs1, he.mono x1, h1.bnd.imp fun xo st2 μ2 H2 x2 hs2 h2 w rw => ?_⟩
    refine ⟨μ2, env, st2, hs2, (he.mono x1).mono x2, h2.bnd.imp fun k st3 μ3 H3 x3 hs3 h3 u ru => ?_⟩
    have rw3 := rw.mono x3.mono x3.pre
    have rv3 := (rv.mono x2.mono x2.pre).mono x3.mono x3.pre
    split at h3
    · rename_i st4 e4
      unfold setIxop at e4
      split at e4
      · split at e4
        · rename_i ds e5
          split at e4
          · rename_i j e6
            cases e4
            obtain ⟨a, rfl, ha⟩ := rw3
            obtain ⟨a', ha', vs, g1, g2⟩ := hs3.get e5
            rw [ha] at ha'; cases ha'
            refine .inl ⟨a, vs, _, j, rfl, ru, g1, by rw [g2.length, ← ixN_eq]; exact e6, ?_⟩
            exact h3.ok (Ext.setl ha g1) (hs3.setl ha g1 (g2.set rv3 j)) σ ((((he.mono x1).mono x2).mono x3).mono (Ext.setl ha g1))
          · cases e4
        · rename_i e5
          obtain ⟨a, rfl, ha⟩ := rw3
          obtain ⟨a', ha', ro⟩ := hs3.get e5
          rw [ha] at ha'; cases ha'
          obtain ⟨H', g, x4, hs4⟩ := setK_of hs3 ha ro rv3 e4
          refine .inr ⟨a, H', rfl, by rw [show u = _ from ru]; exact g, ?_⟩
          exact h3.ok x4 hs4 σ ((((he.mono x1).mono x2).mono x3).mono x4)
        · cases e4
      · split at e4
        · rename_i e5
          obtain ⟨a, rfl, ha⟩ := rw3
          obtain ⟨a', ha', ro⟩ := hs3.get e5
          rw [ha] at ha'; cases ha'
          obtain ⟨H', g, x4, hs4⟩ := setK_of hs3 ha ro rv3 e4
          refine .inr ⟨a, H', rfl, by rw [show u = _ from ru]; exact g, ?_⟩
          exact h3.ok x4 hs4 σ ((((he.mono x1).mono x2).mono x3).mono x4)
        · cases e4
      · cases e4
    · exact h3.none.elim
theorem pip_of {op : Operator} {r : R2} (h : OpR X (inplaceOp op) r) : PIp X op r := fun pins s σ H x y v u Q I r1 r2 q => h pins s σ H x y v u Q I r1 r2 q
end
section
variable {X : Cx}
theorem iop_mulB : OpR X (inplaceOp .Mult) (rI (fun i j => i.natAbs.log2 + j.natAbs.log2 < BITS) fun i j => .int (i * j)) := opI fun i j _ _ _ _ _ hc q => imul_int q (by
  have b : ∀ x : Int, Builtin.Int.intBits x ≤ x.natAbs.log2 + 1 := fun x => by
    unfold Builtin.Int.intBits
    split <;> omega
  have h1 := b i
  have h2 := b j
  have h3 : i.natAbs.log2 + j.natAbs.log2 < BITS := hc
  have e0 : BITS = 134217000 := rfl
  have e : bitsLine = 134217728 := by decide
  unfold IntMulOk
  intro z
  rw [Bool.and_eq_true] at z
  have z2 := z.2
  unfold Builtin.Int.intTooBig at z2
  have z3 := of_decide_eq_true z2
  rw [e] at z3
  omega)
end
/-- op= by values -/
def rIp : Operator → R2
  | .Add => rI0 fun i j => .int (i + j)
  | .Sub => rI0 fun i j => .int (i - j)
  | .Mult => rI (fun i j => i.natAbs.log2 + j.natAbs.log2 < BITS) fun i j => .int (i * j)
  | _ => fun _ _ _ _ => False
theorem rIp_ok {X : Cx} (op : Operator) : PIp X op (rIp op) := by
  cases op with
  | Add => exact pip_of iop_add
  | Sub => exact pip_of iop_sub
  | Mult => exact pip_of iop_mulB
  | _ => exact pip_of fun _ _ _ _ _ _ _ _ _ _ _ _ h => False.elim h
section
variable {X : Cx} {E : XK} {e : Expr} {pos : Pos} {m : Env → Sto → R D}
theorem rIp_of {K : PySem.W.Frag} {μ : List Addr} {H : Hp} {st : Sto} {k : D → Sto → List Addr → Hp → Prop} {x y : D} {v w : V} {Q : VK} {op : Operator} (hs : RSt K H μ st) (rx : RD K H μ x v) (ry : RD K H μ y w) (h : Aft K E μ H (augop op x y st) (KD K Q)) : rIp op v w H Q := by
  unfold augop at h
  split at h
  · exact ⟨_, _, rx, ry, h.val hs rfl⟩
  · exact ⟨_, _, rx, ry, h.val hs rfl⟩
  · obtain ⟨c, h⟩ := h.ite
    exact ⟨_, _, rx, ry, c, h.val hs rfl⟩
  · exact h.none.elim
theorem sS_aug {i : Nat} {x : Str} {op : Operator} {pos' : Pos} (hN : X.N.Nodup) (hi : X.N[i]? = some x) (hx : Loc X.env.scope x) (he : PE X e (rdE X.K (kE E) m)) (hf : X.fn x = true ∨ X.env.scope.names.lookup x = some .local) :
    PS X (.AugAssign (.Name x pos') op e pos) (rdS X.K E fun σ st => match σ[i]? with
    | some (some x) => bnd (m σ st) fun y st => bnd (augop op x y st) fun z st => ok (.nx (σ.set i (some z))) st
    | _ => none) :=
  imS (ps_aug hN hi hx he (rIp_ok op) hf) fun Dn σ H ⟨μ, env, st, hs, he, h⟩ => by
    dsimp only at h
    split at h
    · rename_i d e1
      obtain ⟨v, e2, rv⟩ := he.at_ i d e1
      refine ⟨v, e2, μ, env, st, hs, he, h.bnd.imp fun y st1 μ1 H1 x1 hs1 h1 w rw => ?_⟩
      refine rIp_of (k := fun _ _ _ _ => True) (E := E) hs1 (rv.mono x1.mono x1.pre) rw (h1.bnd.imp fun z st2 μ2 H2 x2 hs2 h2 u ru => ?_)
      exact h2.ok (Ext.refl _ _) hs2 _ (((he.mono x1).mono x2).set i ru)
    · exact h.none.elim
end
end MP

set_option Elab.async false
set_option linter.all false
set_option maxRecDepth 100000
set_option maxHeartbeats 2000000
namespace MP
open PySem PySem.Spec PyProof.Rows L2
variable [Gb]

/-! ### a list in the making -/
section
variable {K : PySem.W.Frag} {E E' : XK}
/-- the world (μ, H) of the store st, behind the base (μ1, H1); at Dd a list of acc that is not the store's -/
structure SD (K : PySem.W.Frag) (μ1 : List Addr) (H1 : Hp) (Dd : Addr) (μ : List Addr) (H : Hp) (st : Sto) (acc : List D) : Prop where
  ext : Ext μ1 H1 μ H
  rst : RSt K H μ st
  out : Dd ∉ μ
  at_ : ∃ vs, H Dd = some (.lst vs) ∧ RDs K H μ acc vs
variable {μ1 μ μ' : List Addr} {H1 H H' : Hp} {Dd : Addr} {st st' : Sto} {acc : List D}
theorem SD.step (s : SD K μ1 H1 Dd μ H st acc) (x : Ext μ H μ' H') (hs : RSt K H' μ' st') : SD K μ1 H1 Dd μ' H' st' acc := by
  obtain ⟨vs, h1, h2⟩ := s.at_
  refine ⟨s.ext.trans x, hs, fun z => ?_, vs, x.keep _ _ s.out h1 (fun _ z => by cases z), h2.mono x.mono x.pre⟩
  rcases x.new _ z with z | z
  · exact s.out z
  · rw [h1] at z; cases z
theorem SD.app (s : SD K μ1 H1 Dd μ H st acc) (hD : H1 Dd = none) {vs : List V} (h1 : H Dd = some (.lst vs)) {d : D} {v : V} (r : RD K H μ d v) : SD K μ1 H1 Dd μ (upd H Dd (.lst (vs ++ [v]))) st (acc ++ [d]) ∧ Mono H (upd H Dd (.lst (vs ++ [v]))) := by
  obtain ⟨vs', h1', h2⟩ := s.at_
  rw [h1] at h1'; cases h1'
  have m : Mono H (upd H Dd (.lst (vs ++ [v]))) := mono_setl h1
  refine ⟨⟨⟨s.ext.pre, s.ext.mono.trans m, s.ext.new, fun b o hb e n => ?_, fun b o hb e => ?_⟩, ⟨s.rst.len, s.rst.nd, fun n o a e1 e2 => ?_, s.rst.tab.mut h1 fun _ z => by cases z⟩, s.out, _, upd_same, (h2.append (.one r)).mono m (List.prefix_refl _)⟩, m⟩
  · rw [upd_ne (ne_of_none e hD)]; exact s.ext.keep b o hb e n
  · rw [upd_ne (ne_of_none e hD)]; exact s.ext.there b o hb e
  · exact (s.rst.at_ n o a e1 e2).same m (List.prefix_refl _) fun _ => upd_ne fun z => s.out (by rw [← z]; exact List.mem_of_getElem? e2)
theorem SD.start {μ1 : List Addr} {H1 : Hp} (hD : H1 Dd = none) (hs : RSt K H1 μ1 st) : SD K μ1 H1 Dd μ1 (upd H1 Dd (.lst [])) st [] :=
  ⟨Ext.newO hD, hs.new hD, hs.out hD, [], upd_same, rfl⟩
theorem SD.fin (s : SD K μ1 H1 Dd μ H st acc) (hD : H1 Dd = none) {Q : VK} (h : Aft K E μ1 H1 (alloc (.lst acc) st) (KD K Q)) : Q (.ref Dd) H := by
  obtain ⟨vs, h1, h2⟩ := s.at_
  have pr : Pre μ (μ ++ [Dd]) := List.prefix_append _ _
  refine h.ok (μ' := μ ++ [Dd]) (H' := H) ⟨s.ext.pre.trans pr, s.ext.mono, fun a ha => ?_, s.ext.keep, s.ext.there⟩ ⟨by rw [List.length_append, List.length_append, s.rst.len]; rfl, ?_, fun n o a e1 e2 => ?_, s.rst.tab⟩ _ ⟨Dd, rfl, by rw [← s.rst.len]; simp⟩
  · rcases List.mem_append.mp ha with z | z
    · exact s.ext.new a z
    · exact .inr (by rw [List.mem_singleton.mp z]; exact hD)
  · rw [List.nodup_append]
    refine ⟨s.rst.nd, List.nodup_cons.mpr ⟨by simp, List.nodup_nil⟩, fun a ha b hb => ?_⟩
    rw [List.mem_singleton] at hb
    subst hb
    exact fun e => s.out (e ▸ ha)
  · by_cases hn : n < st.length
    · rw [List.getElem?_append_left hn] at e1
      rw [List.getElem?_append_left (by rw [s.rst.len]; exact hn)] at e2
      exact (s.rst.at_ n o a e1 e2).same (Mono.refl H) pr fun _ => rfl
    · have e : n = st.length := by
        have := (List.getElem?_eq_some_iff.mp e1).1
        rw [List.length_append, List.length_singleton] at this
        omega
      subst e
      rw [List.getElem?_append_right (Nat.le_refl _), Nat.sub_self] at e1
      rw [← s.rst.len, List.getElem?_append_right (Nat.le_refl _), Nat.sub_self] at e2
      cases e1
      cases e2
      exact ⟨vs, h1, h2.mono (Mono.refl H) pr⟩
/-- a reckoning that does not err run at a later world, what follows it told at the base -/
theorem Aft.base {α β : Type} {r : R α} {F : α → Sto → R β} {k : β → Sto → List Addr → Hp → Prop} (h : Aft K E μ1 H1 (MP.bnd (MP.noX r) F) k) : Aft K E' μ H r fun a st _ _ => Aft K E μ1 H1 (F a st) k := by
  obtain ⟨y, s', e, h⟩ := h
  cases r with
  | none => cases e
  | some p =>
    obtain ⟨z, s⟩ := p
    cases z with
    | error e' => cases e
    | ok a => exact ⟨_, _, rfl, fun _ _ _ _ => ⟨y, s', e, h⟩⟩
theorem noX_bnd {α β : Type} (r : R α) (f : α → Sto → R β) : noX (bnd r f) = bnd (noX r) fun a s => noX (f a s) := by
  cases r with
  | none => rfl
  | some p =>
    obtain ⟨y, s⟩ := p
    cases y <;> rfl
theorem noX_noX {α : Type} (r : R α) : noX (noX r) = noX r := by
  cases r with
  | none => rfl
  | some p =>
    obtain ⟨y, s⟩ := p
    cases y <;> rfl
theorem noX_compL {g : Grd} {tg : G} {σ : Env} {f : Env → List D → Sto → R (List D)} : ∀ (is acc : List D) (st : Sto), noX (compL g tg σ f is acc st) = compL g tg σ f is acc st
  | [], acc, st => by
    unfold compL
    split <;> rfl
  | d :: ds, acc, st => by
    unfold compL
    split
    · split
      · rw [noX_bnd, noX_noX]
        congr 1
        funext a s
        exact noX_compL ds a s
      · rfl
    · rfl
theorem bnd_assoc {α β γ : Type} (r : R α) (f : α → Sto → R β) (g : β → Sto → R γ) : bnd (bnd r f) g = bnd r fun a st => bnd (f a st) g := by
  cases r with
  | none => rfl
  | some p =>
    obtain ⟨y, s⟩ := p
    cases y <;> rfl
theorem wipe_agree {σ σ' : L2.St} : ∀ {vs : List Nat}, σ'.length = σ.length → (∀ j : Nat, j ∉ vs → σ'[j]? = σ[j]?) → L2.wipe σ' vs = L2.wipe σ vs := by
  have out : ∀ {τ : L2.St} {i : Nat} (vs : List Nat), i ∉ vs → (L2.wipe τ vs)[i]? = τ[i]? := fun {τ i} vs h => wipe_out h
  have inn : ∀ {τ : L2.St} {i : Nat} (vs : List Nat), i ∈ vs → i < τ.length → (L2.wipe τ vs)[i]? = some none := by
    intro τ i vs
    induction vs with
    | nil => intro h; cases h
    | cons v vs ih =>
      intro h hi
      show ((L2.wipe τ vs).set v none)[i]? = some none
      by_cases e : v = i
      · subst e
        rw [List.getElem?_set_self (by rw [wipe_length]; exact hi)]
      · rw [List.getElem?_set_ne e]
        rcases List.mem_cons.mp h with z | z
        · exact absurd z.symm e
        · exact ih z hi
  intro vs hl ha
  refine List.ext_getElem? fun i => ?_
  by_cases hi : i ∈ vs
  · by_cases hlt : i < σ.length
    · rw [inn vs hi hlt, inn vs hi (by rw [hl]; exact hlt)]
    · rw [List.getElem?_eq_none (by rw [wipe_length, hl]; omega), List.getElem?_eq_none (by rw [wipe_length]; omega)]
  · rw [out vs hi, out vs hi, ha i hi]
/-- wiping twice -/
theorem wipe_wipe {σ : L2.St} {vs : List Nat} {σ2 : L2.St} (a : Agr sl (L2.wipe σ vs) σ2) (h : ∀ j ∈ sl, j ∈ vs) : L2.wipe σ2 vs = L2.wipe σ vs :=
  wipe_agree (a.1.trans (wipe_length _ _)) fun j hj => (a.2 j fun z => hj (h j z)).trans (wipe_out hj)
/-- THE LOOP of a comprehension -/
theorem compL_of {J : It} {is : List D} {g : Grd} {gf : D → Env → Option Env} {tgg : G} {sl vs : List Nat} {f : Env → List D → Sto → R (List D)} {envw : Env} {σw : L2.St} {β : Type} {F : List D → Sto → R β} {k : β → Sto → List Addr → Hp → Prop} {μa : List Addr} {Ha : Hp} {μs : List Addr} {Hs : Hp} {sts : Sto} {accs : List D} {Body : L2.St → Hp → (Hp → Prop) → Prop} {Stop : Hp → Prop}
    (hgf : gf = asgG tgg) (W : Walks K J is g μa Ha) (hsl : ∀ j ∈ sl, j ∈ vs) (henv : ∀ μ H, Pre μa μ → Mono Ha H → REnv K H μ envw σw) (hσ : L2.wipe σw vs = σw)
    (pa : Pre μa μs) (ma : Mono Ha Hs) (s0 : SD K μ1 H1 Dd μs Hs sts accs) (h : Aft K E μ1 H1 (bnd (compL g tgg envw f is accs sts) F) k)
    (hbody : ∀ μ H st acc env' σ', Pre μa μ → Mono Ha H → SD K μ1 H1 Dd μ H st acc → REnv K H μ env' σ' → ∀ F', Aft K E μ1 H1 (bnd (noX (f env' acc st)) F') k → ∀ Nx, (∀ μ' H' st' acc', Pre μa μ' → Mono Ha H' → SD K μ1 H1 Dd μ' H' st' acc' → Aft K E μ1 H1 (F' acc' st') k → Nx H') → Body σ' H Nx)
    (hstop : ∀ μ H st acc, Pre μa μ → Mono Ha H → SD K μ1 H1 Dd μ H st acc → Aft K E μ1 H1 (F acc st) k → Stop H) :
    ∃ W : Nat → Nat → Hp → Prop, (∃ m, W 0 m Hs) ∧ ∀ i m H, W i m H → (J.stop i H ∧ Stop H) ∨
      (J.go i H ∧ ∃ Nx : Hp → Prop, (∀ H', Nx H' → ∃ m', m' < m ∧ W (i + 1) m' H') ∧ ∀ x H', J.yld i H x H' → rdG K sl gf x σw H' fun σ2 H2 => L2.wipe σ2 vs = σw ∧ Body σ2 H2 Nx) := by
  subst hgf
  refine ⟨fun i m H => m = is.length - i ∧ i ≤ is.length ∧ ∃ μ st acc, Pre μa μ ∧ Mono Ha H ∧ SD K μ1 H1 Dd μ H st acc ∧ Aft K E μ1 H1 (bnd (compL g tgg envw f (is.drop i) acc st) F) k, ⟨is.length, rfl, Nat.zero_le _, μs, sts, accs, pa, ma, s0, h⟩, ?_⟩
  clear h s0 pa ma
  rintro i m H ⟨rfl, hi, μ, st, acc, p, mo, s, h⟩
  by_cases hl : i < is.length
  · have e : is.drop i = is[i] :: is.drop (i + 1) := (List.drop_eq_getElem_cons hl)
    rw [e] at h
    unfold compL at h
    by_cases hd : held g st
    · rw [if_pos hd] at h
      obtain ⟨go, yl⟩ := W.go i μ H st is[i] p mo s.rst hd (List.getElem?_eq_getElem hl)
      refine .inr ⟨go, fun H' => i + 1 ≤ is.length ∧ ∃ μ st acc, Pre μa μ ∧ Mono Ha H' ∧ SD K μ1 H1 Dd μ H' st acc ∧ Aft K E μ1 H1 (bnd (compL g tgg envw f (is.drop (i + 1)) acc st) F) k, fun H' hN => ⟨is.length - (i + 1), by omega, rfl, hN.1, hN.2⟩, fun v H' y => ?_⟩
      obtain ⟨x1, hs1, r1⟩ := yl v H' y
      split at h
      · rename_i env1 e1
        have p1 : Pre μa μ := p
        have m1 : Mono Ha H' := mo.trans x1.mono
        refine ⟨μ, envw, is[i], env1, r1, henv μ H' p1 m1, e1, fun σ1 a1 he1 => ⟨?_, ?_⟩⟩
        · rw [← hσ]
          exact wipe_wipe (by rw [hσ]; exact a1) hsl
        · rw [bnd_assoc] at h
          exact hbody μ H' st acc env1 σ1 p1 m1 (s.step x1 hs1) he1 _ h _ fun μ2 H2 st2 acc2 p2 m2 s2 h2 => ⟨hl, μ2, st2, acc2, p2, m2, s2, h2⟩
      · exact h.none.elim
    · rw [if_neg hd] at h
      exact h.none.elim
  · have e : i = is.length := by omega
    subst e
    rw [List.drop_length] at h
    unfold compL at h
    by_cases hd : held g st
    · rw [if_pos hd] at h
      exact .inl ⟨W.stop μ H st p mo s.rst hd, hstop μ H st acc p mo s h⟩
    · rw [if_neg hd] at h
      exact h.none.elim
end

/-! ### tests of a comprehension -/
def rdC (K : PySem.W.Frag) (E : L2.St → XK) (m : Env → Sto → R Bool) : TT := fun σ H Q => ∃ μ env st, RSt K H μ st ∧ REnv K H μ env σ ∧ Aft K (E σ) μ H (m env st) fun b _ _ H' => Q b H'
section
variable {X : Cx} {E E' : L2.St → XK} {c : Expr} {ifs : List Expr}
theorem imTs {e : List Expr} {t t' : TT} (h : PTs X e t) (i : ∀ σ H Q, t' σ H Q → t σ H Q) : PTs X e t' := ⟨fun pins s σ H Q I q => h.run pins s σ H Q I (i σ H Q q)⟩
theorem sC_nil : PTs X [] (rdC X.K E fun _ st => ok true st) := imTs pts_nil fun σ H Q ⟨μ, env, st, hs, he, h⟩ => h.ok (Ext.refl _ _) hs
theorem sC_one {m : Env → Sto → R D} (hc : PT X c (rdT X.K E m)) : PTs X [c] (rdC X.K E fun σ st => bnd (m σ st) fun d st => match d with
    | .bl true => ok true st
    | .bl false => ok false st
    | _ => none) := imTs (pts_one hc) fun σ H Q ⟨μ, env, st, hs, he, h⟩ => ⟨μ, env, st, hs, he, h.bnd.imp fun d st1 μ1 H1 x hs1 h1 => by
  split at h1
  · exact ⟨true, rfl, h1.ok (Ext.refl _ _) hs1⟩
  · exact ⟨false, rfl, h1.ok (Ext.refl _ _) hs1⟩
  · exact h1.none.elim⟩

/-! ### comprehensions -/
variable {elt tg iter tg1 iter1 : Expr} {ifs1 : List Expr} {scope : Scope} {own : List (Str × Nat)} {pos : Pos} {k k1 : IK} {gf gf1 : D → Env → Option Env} {tgg tgg1 : G} {sl sl1 vs1 : List Nat} {ms ms1 : Env → Sto → R (List D)} {mt mt1 : Env → Sto → R Bool} {me : Env → Sto → R D}
/-- one item -/
noncomputable def itemM (mt : Env → Sto → R Bool) (me : Env → Sto → R D) : Env → List D → Sto → R (List D) := fun σ acc st => bnd (mt σ st) fun b st => if b = true then bnd (me σ st) fun d st => if acc.length < LINE then ok (acc ++ [d]) st else none else ok acc st
noncomputable def compM (ms : Env → Sto → R (List D)) (k : IK) (tg : G) (own : List Nat) (f : Env → List D → Sto → R (List D)) : Env → Sto → R D := fun σ st => bnd (ms σ st) fun ds st => match items k ds st with
    | some (is, g) => bnd (compL g tg (wipe σ own) f is [] st) fun acc st => alloc (.lst acc) st
    | none => none
theorem item_of {K : PySem.W.Frag} {F : XK} {μ1 μa : List Addr} {H1 Ha : Hp} {Dd : Addr} (hD : H1 Dd = none) {β : Type} {kk : β → Sto → List Addr → Hp → Prop} : ∀ μ H st acc env' σ', Pre μa μ → Mono Ha H → SD K μ1 H1 Dd μ H st acc → REnv K H μ env' σ' → ∀ F', Aft K F μ1 H1 (bnd (noX (itemM mt me env' acc st)) F') kk → ∀ Nx : Hp → Prop, (∀ μ' H' st' acc', Pre μa μ' → Mono Ha H' → SD K μ1 H1 Dd μ' H' st' acc' → Aft K F μ1 H1 (F' acc' st') kk → Nx H') →
    rdC K E' mt σ' H fun b H3 => if b = true then rdE K E' me σ' H3 fun y H4 => ∃ acc, H4 Dd = some (.lst acc) ∧ acc.length < sizeLine ∧ Nx (upd H4 Dd (.lst (acc ++ [y]))) else Nx H3 := by
  intro μ H st acc env' σ' p m s he F' h Nx nx
  unfold itemM at h
  rw [noX_bnd, bnd_assoc] at h
  refine ⟨μ, env', st, s.rst, he, h.base.imp fun b st2 μ2 H2 x2 hs2 h2 => ?_⟩
  have s2 := s.step x2 hs2
  have p2 := p.trans x2.pre
  have m2 := m.trans x2.mono
  cases b with
  | false =>
    rw [if_neg Bool.false_ne_true, noX_ok, bnd_ok] at h2
    exact iteF (nx μ2 H2 st2 acc p2 m2 s2 h2)
  | true =>
    rw [if_pos rfl, noX_bnd, bnd_assoc] at h2
    refine iteT ⟨μ2, env', st2, hs2, he.mono x2, h2.base.imp fun d st3 μ3 H3 x3 hs3 h3 v rv => ?_⟩
    have s3 := s2.step x3 hs3
    by_cases hc : acc.length < LINE
    · rw [if_pos hc, noX_ok, bnd_ok] at h3
      obtain ⟨vs, h4, h5⟩ := s3.at_
      obtain ⟨s4, m4⟩ := s3.app hD h4 rv
      exact ⟨vs, h4, by rw [h5.length, ← line_eq]; exact hc, nx μ3 _ st3 _ (p2.trans x3.pre) ((m2.trans x3.mono).trans m4) s4 h3⟩
    · rw [if_neg hc] at h3
      exact h3.none.elim
theorem comp_of {K : PySem.W.Frag} {vs : List Nat} (hgf : gf = asgG tgg) (hsl : ∀ j ∈ sl, j ∈ vs) {σ : L2.St} {H : Hp} {Q : VK} (h : rdE K E (compM ms k tgg vs (itemM mt me)) σ H Q) : tLc (rdI K E ms k) (rdG K sl gf) (rdC K E' mt) (rdE K E' me) vs σ H Q := by
  obtain ⟨μ, env, st, hs, he, h⟩ := h
  refine ⟨μ, env, st, hs, he, h.bnd.imp fun ds st1 μ1 H1 x hs1 h1 => ?_⟩
  split at h1
  · rename_i is g e
    refine ⟨is, g, e, fun J W Dd hD => ?_⟩
    exact compL_of (vs := vs) (Stop := fun H => Q (.ref Dd) H) hgf W hsl (fun μ2 H2 p m => ((he.mono x).mono' p m).wipe vs) (wipe_wipe (Agr.refl vs _) fun _ h => h) (List.prefix_refl _) (Mono.new hD) (SD.start hD hs1) h1 (item_of hD) fun μ2 H2 st2 acc p m s h2 => s.fin hD h2
  · exact h1.none.elim
theorem sE_comp (hgf : gf = asgG tgg) (hc : X.calm = true) (hN : X.N.Nodup) (hi : PI X tg iter (rdI X.K E ms k)) (okb : BlkOk X.N X.env.scope scope own) (hsl : ∀ j ∈ sl, j ∈ own.map (·.2))
    (hg : ∀ (s : Shared) (H : Hp) (C : Addr) (cl : List (Str × Addr)) (fp : List Addr), PG (X.blk s H scope (compEnvC scope cl C X.env) fp) tg (rdG X.K sl gf)) (ht : ∀ (s : Shared) (H : Hp) (C : Addr) (cl : List (Str × Addr)) (fp : List Addr), PTs (X.blk s H scope (compEnvC scope cl C X.env) fp) ifs (rdC X.K E' mt))
    (he : ∀ (s : Shared) (H : Hp) (C : Addr) (cl : List (Str × Addr)) (fp : List Addr), PE (X.blk s H scope (compEnvC scope cl C X.env) fp) elt (rdE X.K E' me)) (hs : ∀ x, foldedSetIterable iter X.env x = pure x) :
    PE X (.ListComp elt [⟨tg, iter, ifs, 0⟩] scope pos) (rdE X.K E (compM ms k tgg (own.map (·.2)) (itemM mt me))) :=
  imE (pe_lc hc hN hi okb hg ht he hs) fun σ H Q h => comp_of hgf hsl h
theorem sS_setComp {F : XK} {i : Nat} {y : Str} {py spos : Pos} (hgf : gf = asgG tgg) (hc : X.calm = true) (hN : X.N.Nodup) (hy : X.N[i]? = some y) (hyl : X.env.scope.names.lookup y = some .local)
    (hsw : swapsWith (.ListComp elt [⟨tg, iter, ifs, 0⟩] scope pos) (some (.Name y py)) spos.line X.env = pure true) (hi : PI X tg iter (rdI X.K (kE F) ms k)) (okb : BlkOk X.N X.env.scope scope own) (hsl : ∀ j ∈ sl, j ∈ own.map (·.2))
    (hg : ∀ (s : Shared) (H : Hp) (C : Addr) (cl : List (Str × Addr)) (fp : List Addr), PG (X.blk s H scope (compEnvC scope cl C X.env) fp) tg (rdG X.K sl gf)) (ht : ∀ (s : Shared) (H : Hp) (C : Addr) (cl : List (Str × Addr)) (fp : List Addr), PTs (X.blk s H scope (compEnvC scope cl C X.env) fp) ifs (rdC X.K E' mt))
    (he : ∀ (s : Shared) (H : Hp) (C : Addr) (cl : List (Str × Addr)) (fp : List Addr), PE (X.blk s H scope (compEnvC scope cl C X.env) fp) elt (rdE X.K E' me)) (hs : ∀ x, foldedSetIterable iter X.env x = pure x) :
    PS X (.Assign [.Name y py] (.ListComp elt [⟨tg, iter, ifs, 0⟩] scope pos) spos) (rdS X.K F fun σ st => bnd (compM ms k tgg (own.map (·.2)) (itemM mt me) σ st) fun d st => ok (.nx (σ.set i (some d))) st) :=
  imS (ps_setLc hc hN hy hyl hsw hi okb hg ht he hs) fun Dn σ H ⟨μ, env, st, hs, he, h⟩ => by
    refine comp_of (Q := fun v H => gName i v σ H Dn.nx) hgf hsl ⟨μ, env, st, hs, he, h.bnd.imp fun d st1 μ1 H1 x hs1 h1 v rv => ?_⟩
    exact h1.ok (Ext.refl _ _) hs1 _ ((he.mono x).set i rv)

/-! ### two clauses -/
noncomputable def item2M (mt : Env → Sto → R Bool) (ms1 : Env → Sto → R (List D)) (k1 : IK) (tg1 : G) (own1 : List Nat) (f1 : Env → List D → Sto → R (List D)) : Env → List D → Sto → R (List D) := fun σ acc st => bnd (mt σ st) fun b st => if b = true then bnd (ms1 σ st) fun ds1 st => (match items k1 ds1 st with
        | some (is1, g1) => compL g1 tg1 (wipe σ own1) f1 is1 acc st
        | none => none) else ok acc st
theorem comp2_of {K : PySem.W.Frag} {vs : List Nat} (hgf : gf = asgG tgg) (hgf1 : gf1 = asgG tgg1) (hsl : ∀ j ∈ sl, j ∈ vs) (hsl1 : ∀ j ∈ sl1, j ∈ vs1) {σ : L2.St} {H : Hp} {Q : VK} (h : rdE K E (compM ms k tgg vs (item2M mt ms1 k1 tgg1 vs1 (itemM mt1 me))) σ H Q) :
    tLc2 (rdI K E ms k) (rdG K sl gf) (rdC K E' mt) (rdI K E' ms1 k1) (rdG K sl1 gf1) (rdC K E' mt1) (rdE K E' me) vs vs1 σ H Q := by
  obtain ⟨μ, env, st, hs, he, h⟩ := h
  refine ⟨μ, env, st, hs, he, h.bnd.imp fun ds st1 μ1 H1 x hs1 h1 => ?_⟩
  split at h1
  · rename_i is g e
    refine ⟨is, g, e, fun J W Dd hD => ?_⟩
    refine compL_of (vs := vs) (Stop := fun H => Q (.ref Dd) H) hgf W hsl (fun μ2 H2 p m => ((he.mono x).mono' p m).wipe vs) (wipe_wipe (Agr.refl vs _) fun _ h => h) (List.prefix_refl _) (Mono.new hD) (SD.start hD hs1) h1 ?_ fun μ2 H2 st2 acc p m s h2 => s.fin hD h2
    intro μ2 H2 st2 acc2 env2 σ2 p2 m2 s2 he2 F' h2 Nx nx
    unfold item2M at h2
    rw [noX_bnd, bnd_assoc] at h2
    refine ⟨μ2, env2, st2, s2.rst, he2, h2.base.imp fun b st3 μ3 H3 x3 hs3 h3 => ?_⟩
    have s3 := s2.step x3 hs3
    have p3 := p2.trans x3.pre
    have m3 := m2.trans x3.mono
    cases b with
    | false =>
      rw [if_neg Bool.false_ne_true, noX_ok, bnd_ok] at h3
      exact iteF (nx μ3 H3 st3 acc2 p3 m3 s3 h3)
    | true =>
      rw [if_pos rfl, noX_bnd, bnd_assoc] at h3
      refine iteT ⟨μ3, env2, st3, hs3, he2.mono x3, h3.base.imp fun ds1 st4 μ4 H4 x4 hs4 h4 => ?_⟩
      have s4 := s3.step x4 hs4
      have p4 := p3.trans x4.pre
      have m4 := m3.trans x4.mono
      split at h4
      · rename_i is1 g1 e1
        rw [noX_compL] at h4
        refine ⟨is1, g1, e1, fun J1 W1 => ?_⟩
        exact compL_of (vs := vs1) hgf1 W1 hsl1 (fun μ5 H5 p m => (((he2.mono x3).mono x4).mono' p m).wipe vs1) (wipe_wipe (Agr.refl vs1 _) fun _ h => h) (List.prefix_refl _) (Mono.refl _) s4 h4 (item_of hD) fun μ5 H5 st5 acc5 p m s5 h5 => nx μ5 H5 st5 acc5 (p4.trans p) (m4.trans m) s5 h5
      · exact h4.none.elim
  · exact h1.none.elim
theorem sE_comp2 (hgf : gf = asgG tgg) (hgf1 : gf1 = asgG tgg1) (hc : X.calm = true) (hN : X.N.Nodup) (hi : PI X tg iter (rdI X.K E ms k)) (okb : BlkOk X.N X.env.scope scope own) (hv : ∀ i ∈ vs1, i ∈ own.map (·.2)) (hsl : ∀ j ∈ sl, j ∈ own.map (·.2)) (hsl1 : ∀ j ∈ sl1, j ∈ vs1)
    (hg : ∀ (s : Shared) (H : Hp) (C : Addr) (cl : List (Str × Addr)) (fp : List Addr), PG (X.blk s H scope (compEnvC scope cl C X.env) fp) tg (rdG X.K sl gf)) (ht : ∀ (s : Shared) (H : Hp) (C : Addr) (cl : List (Str × Addr)) (fp : List Addr), PTs (X.blk s H scope (compEnvC scope cl C X.env) fp) ifs (rdC X.K E' mt))
    (hi1 : ∀ (s : Shared) (H : Hp) (C : Addr) (cl : List (Str × Addr)) (fp : List Addr), PI (X.blk s H scope (compEnvC scope cl C X.env) fp) tg1 iter1 (rdI X.K E' ms1 k1))
    (hg1 : ∀ (s : Shared) (H : Hp) (C : Addr) (cl : List (Str × Addr)) (fp : List Addr), PG (X.blk s H scope (compEnvC scope cl C X.env) fp) tg1 (rdG X.K sl1 gf1)) (ht1 : ∀ (s : Shared) (H : Hp) (C : Addr) (cl : List (Str × Addr)) (fp : List Addr), PTs (X.blk s H scope (compEnvC scope cl C X.env) fp) ifs1 (rdC X.K E' mt1))
    (he : ∀ (s : Shared) (H : Hp) (C : Addr) (cl : List (Str × Addr)) (fp : List Addr), PE (X.blk s H scope (compEnvC scope cl C X.env) fp) elt (rdE X.K E' me)) (hs : ∀ x, foldedSetIterable iter X.env x = pure x) (hs1 : ∀ env x, foldedSetIterable iter1 env x = pure x) :
    PE X (.ListComp elt [⟨tg, iter, ifs, 0⟩, ⟨tg1, iter1, ifs1, 0⟩] scope pos) (rdE X.K E (compM ms k tgg (own.map (·.2)) (item2M mt ms1 k1 tgg1 vs1 (itemM mt1 me)))) :=
  imE (pe_lc2 hc hN hi okb hv hg ht hi1 hg1 ht1 he hs hs1) fun σ H Q h => comp2_of hgf hgf1 hsl hsl1 h
theorem sS_setComp2 {F : XK} {i : Nat} {y : Str} {py spos : Pos} (hgf : gf = asgG tgg) (hgf1 : gf1 = asgG tgg1) (hc : X.calm = true) (hN : X.N.Nodup) (hy : X.N[i]? = some y) (hyl : X.env.scope.names.lookup y = some .local)
    (hsw : swapsWith (.ListComp elt [⟨tg, iter, ifs, 0⟩, ⟨tg1, iter1, ifs1, 0⟩] scope pos) (some (.Name y py)) spos.line X.env = pure true) (hi : PI X tg iter (rdI X.K (kE F) ms k)) (okb : BlkOk X.N X.env.scope scope own) (hv : ∀ i ∈ vs1, i ∈ own.map (·.2)) (hsl : ∀ j ∈ sl, j ∈ own.map (·.2)) (hsl1 : ∀ j ∈ sl1, j ∈ vs1)
    (hg : ∀ (s : Shared) (H : Hp) (C : Addr) (cl : List (Str × Addr)) (fp : List Addr), PG (X.blk s H scope (compEnvC scope cl C X.env) fp) tg (rdG X.K sl gf)) (ht : ∀ (s : Shared) (H : Hp) (C : Addr) (cl : List (Str × Addr)) (fp : List Addr), PTs (X.blk s H scope (compEnvC scope cl C X.env) fp) ifs (rdC X.K E' mt))
    (hi1 : ∀ (s : Shared) (H : Hp) (C : Addr) (cl : List (Str × Addr)) (fp : List Addr), PI (X.blk s H scope (compEnvC scope cl C X.env) fp) tg1 iter1 (rdI X.K E' ms1 k1))
    (hg1 : ∀ (s : Shared) (H : Hp) (C : Addr) (cl : List (Str × Addr)) (fp : List Addr), PG (X.blk s H scope (compEnvC scope cl C X.env) fp) tg1 (rdG X.K sl1 gf1)) (ht1 : ∀ (s : Shared) (H : Hp) (C : Addr) (cl : List (Str × Addr)) (fp : List Addr), PTs (X.blk s H scope (compEnvC scope cl C X.env) fp) ifs1 (rdC X.K E' mt1))
    (he : ∀ (s : Shared) (H : Hp) (C : Addr) (cl : List (Str × Addr)) (fp : List Addr), PE (X.blk s H scope (compEnvC scope cl C X.env) fp) elt (rdE X.K E' me)) (hs : ∀ x, foldedSetIterable iter X.env x = pure x) (hs1 : ∀ env x, foldedSetIterable iter1 env x = pure x) :
    PS X (.Assign [.Name y py] (.ListComp elt [⟨tg, iter, ifs, 0⟩, ⟨tg1, iter1, ifs1, 0⟩] scope pos) spos) (rdS X.K F fun σ st => bnd (compM ms k tgg (own.map (·.2)) (item2M mt ms1 k1 tgg1 vs1 (itemM mt1 me)) σ st) fun d st => ok (.nx (σ.set i (some d))) st) :=
  imS (ps_setLc2 hc hN hy hyl hsw hi okb hv hg ht hi1 hg1 ht1 he hs hs1) fun Dn σ H ⟨μ, env, st, hs, he, h⟩ => by
    refine comp2_of (Q := fun v H => gName i v σ H Dn.nx) hgf hgf1 hsl hsl1 ⟨μ, env, st, hs, he, h.bnd.imp fun d st1 μ1 H1 x hs1 h1 v rv => ?_⟩
    exact h1.ok (Ext.refl _ _) hs1 _ ((he.mono x).set i rv)
end
end MP

set_option Elab.async false
set_option linter.all false
set_option maxRecDepth 100000
set_option maxHeartbeats 2000000
namespace MP
open PySem PySem.Spec PyProof.Rows L2
variable [Gb]

/-! ### how arguments bind -/
theorem forIn_good {β : Type} {F : Str × Value → List (Str × Value) × β → Sem (ForInStep (List (Str × Value) × β))} {b : β} : ∀ (l : List (Str × Value)) (s : List (Str × Value)),
    (∀ i x, l[i]? = some x → F x (s ++ l.take i, b) = pure (.yield (s ++ l.take i ++ [x], b))) → forIn l (s, b) F = pure (s ++ l, b)
  | [], s, _ => by rw [List.forIn_nil, List.append_nil]
  | x :: l, s, h => by
    have h0 := h 0 x rfl
    rw [List.take_zero, List.append_nil] at h0
    rw [List.forIn_cons, h0, pure_bind]
    show forIn l (s ++ [x], b) F = pure (s ++ x :: l, b)
    rw [forIn_good l (s ++ [x]) fun i y e => by
      have q := h (i + 1) y e
      rw [List.take_succ_cons] at q
      rw [List.append_assoc, List.singleton_append]
      exact q]
    rw [List.append_assoc, List.singleton_append]
theorem lookup_zip_none {α : Type} {k : Str} : ∀ {ns : List Str} {vs : List α}, k ∉ ns → (ns.zip vs).lookup k = none
  | [], _, _ => by rw [List.zip_nil_left]; rfl
  | _ :: _, [], _ => by rw [List.zip_nil_right]; rfl
  | n :: ns, v :: vs, h => by
    rw [List.zip_cons_cons, List.lookup_cons]
    have e : (k == n) = false := beq_eq_false_iff_ne.mpr fun z => h (by rw [z]; exact List.mem_cons_self)
    rw [e]
    exact lookup_zip_none fun z => h (List.mem_cons_of_mem _ z)
theorem lookup_zip_some {α : Type} {k : Str} : ∀ {ns : List Str} {vs : List α}, ns.length = vs.length → k ∈ ns → ((ns.zip vs).lookup k).isSome = true
  | [], _, _, h => by cases h
  | _ :: _, [], h, _ => by cases h
  | n :: ns, v :: vs, hl, h => by
    rw [List.zip_cons_cons, List.lookup_cons]
    cases e : k == n with
    | true => rfl
    | false =>
      refine lookup_zip_some (Nat.succ.inj hl) ?_
      rcases List.mem_cons.mp h with z | z
      · rw [z, beq_self_eq_true] at e; cases e
      · exact z
theorem zip_take {α β : Type} : ∀ (ps : List α) (us : List β), ps.zip us = (ps.take us.length).zip us
  | [], us => by rw [List.zip_nil_left, List.take_nil, List.zip_nil_left]
  | p :: ps, [] => by rw [List.zip_nil_right, List.zip_nil_right]
  | p :: ps, u :: us => by
    rw [List.length_cons, List.take_succ_cons, List.zip_cons_cons, List.zip_cons_cons, ← zip_take ps us]
theorem zipTake_ {α β : Type} : ∀ (xs : List α) (ys : List β) (i : Nat), (xs.zip ys).take i = (xs.take i).zip (ys.take i)
  | [], ys, i => by simp
  | x :: xs, [], i => by simp
  | x :: xs, y :: ys, 0 => by simp
  | x :: xs, y :: ys, i + 1 => by rw [List.zip_cons_cons, List.take_succ_cons, List.take_succ_cons, List.take_succ_cons, List.zip_cons_cons, zipTake_ xs ys i]
theorem bind_kw {fd : FuncData} {us ws : List Value} {ps ks : List Str} (hp : fd.params.posonlyargs = []) (hv : fd.params.vararg = none) (hk : fd.params.kwonlyargs = []) (hkw : fd.params.kwarg = none) (hd : fd.defaults = .none) (hps : fd.params.args.map (·.arg) = ps)
    (hl : us.length ≤ ps.length) (hlk : ks.length = ws.length) (hin : ∀ k ∈ ks, k ∈ ps) (nd : (ps.take us.length ++ ks).Nodup) (hall : ∀ p ∈ ps, p ∈ ps.take us.length ++ ks) :
    bindArgs fd ⟨us, ks.zip ws⟩ = pure (ps.filterMap fun p => (((ps.take us.length ++ ks).zip (us ++ ws)).lookup p).map (p, ·)) := by
  have hz : ps.zip us = (ps.take us.length).zip us := zip_take ps us
  have hS : ps.zip us ++ ks.zip ws = (ps.take us.length ++ ks).zip (us ++ ws) := by
    rw [hz, List.zip_append (by rw [List.length_take]; omega)]
  have hs : seqItems? Value.none = pure none := rfl
  unfold bindArgs
  simp only [hp, hv, hk, hkw, hd, hps, List.map_nil, List.nil_append, hs, pure_bind]
  rw [forIn_good (ks.zip ws) (ps.zip us) fun i x e => ?_]
  · rw [pure_bind]
    have hlt : decide (us.length > ps.length) = false := decide_eq_false (Nat.not_lt.mpr hl)
    have hmiss : (ps.filter fun n => (List.lookup n (ps.zip us ++ ks.zip ws)).isNone) = [] := by
      rw [List.filter_eq_nil_iff]
      intro p hp z
      have q := lookup_zip_some (vs := us ++ ws) (by rw [List.length_append, List.length_append, List.length_take, hlk]; omega) (hall p hp)
      rw [← hS] at q
      rw [Option.isNone_iff_eq_none.mp z] at q
      cases q
    simp only [hlt, Bool.false_and, Bool.false_eq_true, if_false, Option.getD_none, List.drop_nil, List.length_nil, Nat.sub_zero, List.take_length, hmiss, List.isEmpty_nil, Bool.not_true, List.drop_length, List.zip_nil_right, List.forIn_nil, pure_bind, List.append_nil]
    rw [hS]
  · have hix : i < (ks.zip ws).length := (List.getElem?_eq_some_iff.mp e).1
    rw [List.length_zip, hlk, Nat.min_self, ← hlk] at hix
    have e1 : (ks.zip ws)[i]? = some (ks[i], ws[i]'(by omega)) := by
      rw [List.getElem?_eq_getElem (by rw [List.length_zip]; omega), List.getElem_zip]
    rw [e] at e1
    cases e1
    have hpre : ps.zip us ++ (ks.zip ws).take i = (ps.take us.length ++ ks.take i).zip (us ++ ws.take i) := by
      rw [hz, List.zip_append (by rw [List.length_take]; omega), zipTake_]
    have hout : ks[i] ∉ ps.take us.length ++ ks.take i := fun z => by
      have nd' := nd
      rw [← List.take_append_drop i ks, ← List.append_assoc, List.nodup_append] at nd'
      exact nd'.2.2 _ z _ (by rw [List.mem_drop_iff_getElem]; exact ⟨0, by omega, by simp⟩) rfl
    have hno : List.lookup ks[i] (ps.zip us ++ (ks.zip ws).take i) = none := by rw [hpre]; exact lookup_zip_none hout
    have hc : ps.contains ks[i] = true := List.contains_iff_mem.mpr (hin _ (List.getElem_mem _))
    simp only [hc, hno, Bool.true_or, if_true, Option.isSome_none, Bool.false_eq_true, if_false]

/-- the places pm of the parameters ps among the names ns -/
def okPm (ns : List Str) : List Str → List Nat → Bool
  | [], [] => true
  | p :: ps, j :: pm => decide (ns[j]? = some p) && okPm ns ps pm
  | _, _ => false
theorem lookup_zip_ix {α : Type} {k : Str} : ∀ {ns : List Str} {vs : List α} {j : Nat}, ns.Nodup → ns.length = vs.length → ns[j]? = some k → (ns.zip vs).lookup k = vs[j]?
  | [], _, j, _, _, h => by cases j <;> cases h
  | _ :: _, [], _, _, h, _ => by cases h
  | n :: ns, v :: vs, 0, _, _, h => by
    have e : n = k := Option.some.inj h
    subst e
    rw [List.zip_cons_cons, List.lookup_cons_self]
    rfl
  | n :: ns, v :: vs, j + 1, nd, hl, h => by
    have h : ns[j]? = some k := h
    have e : (k == n) = false := beq_eq_false_iff_ne.mpr fun z => (List.nodup_cons.mp nd).1 (by rw [← z]; exact List.mem_of_getElem? h)
    rw [List.zip_cons_cons, List.lookup_cons, e]
    exact lookup_zip_ix (List.nodup_cons.mp nd).2 (Nat.succ.inj hl) h
theorem pm_bind {ns : List Str} {vs : List Value} (nd : ns.Nodup) (hl : ns.length = vs.length) : ∀ {ps : List Str} {pm : List Nat}, okPm ns ps pm = true → ps.filterMap (fun p => ((ns.zip vs).lookup p).map (p, ·)) = ps.zip (pm.map fun j => vs.getD j .none)
  | [], [], _ => rfl
  | [], _ :: _, h => by cases h
  | _ :: _, [], h => by cases h
  | p :: ps, j :: pm, h => by
    obtain ⟨h1, h2⟩ := Bool.and_eq_true_iff.mp (show (decide (ns[j]? = some p) && okPm ns ps pm) = true from h)
    have h1 := of_decide_eq_true h1
    have hj : j < vs.length := by rw [← hl]; exact (List.getElem?_eq_some_iff.mp h1).1
    rw [List.filterMap_cons, lookup_zip_ix nd hl h1, List.getElem?_eq_getElem hj, pm_bind nd hl h2, List.map_cons, List.zip_cons_cons]
    simp [List.getD, hj]
theorem okPm_len {ns : List Str} : ∀ {ps : List Str} {pm : List Nat}, okPm ns ps pm = true → pm.length = ps.length
  | [], [], _ => rfl
  | [], _ :: _, h => by cases h
  | _ :: _, [], h => by cases h
  | p :: ps, j :: pm, h => by
    obtain ⟨_, h2⟩ := Bool.and_eq_true_iff.mp (show (decide (ns[j]? = some p) && okPm ns ps pm) = true from h)
    rw [List.length_cons, List.length_cons, okPm_len h2]
theorem okPm_all {ns : List Str} : ∀ {ps : List Str} {pm : List Nat}, okPm ns ps pm = true → ∀ p ∈ ps, p ∈ ns
  | [], [], _, _, h => by cases h
  | [], _ :: _, h, _, _ => by cases h
  | _ :: _, [], h, _, _ => by cases h
  | p :: ps, j :: pm, h, q, hq => by
    obtain ⟨h1, h2⟩ := Bool.and_eq_true_iff.mp (show (decide (ns[j]? = some p) && okPm ns ps pm) = true from h)
    rcases List.mem_cons.mp hq with e | e
    · rw [e]; exact List.mem_of_getElem? (of_decide_eq_true h1)
    · exact okPm_all h2 q e
/-- a call of n positional values and the keywords ks, the parameters ps to be found at pm -/
def okCall (ps : List Str) (n : Nat) (ks : List Str) (pm : List Nat) : Bool :=
  decide (n ≤ ps.length) && ks.all (fun k => decide (k ∈ ps)) && decide ((ps.take n ++ ks).Nodup) && okPm (ps.take n ++ ks) ps pm
def pmV (pm : List Nat) (vs : List V) : List V := pm.map fun j => vs.getD j .non
def pmU (pm : List Nat) (us : List Value) : List Value := pm.map fun j => us.getD j .none
theorem vals_getD {vs : List V} {us : List Value} (r : Vals vs us) (j : Nat) : RelV (vs.getD j .non) (us.getD j .none) := by
  by_cases h : j < vs.length
  · obtain ⟨u, e, q⟩ := r.get (List.getElem?_eq_getElem h)
    rw [List.getD_eq_getElem?_getD, List.getD_eq_getElem?_getD, e, List.getElem?_eq_getElem h]
    exact q
  · rw [List.getD_eq_getElem?_getD, List.getD_eq_getElem?_getD, List.getElem?_eq_none (by omega), List.getElem?_eq_none (by rw [← r.length]; omega)]
    rfl
theorem pm_vals {vs : List V} {us : List Value} (r : Vals vs us) : ∀ pm : List Nat, Vals (pmV pm vs) (pmU pm us)
  | [] => .nil
  | j :: pm => .cons (vals_getD r j) (pm_vals r pm)
structure Plain (fd : FuncData) (ps : List Str) : Prop where
  po : fd.params.posonlyargs = []
  va : fd.params.vararg = none
  ko : fd.params.kwonlyargs = []
  kw : fd.params.kwarg = none
  df : fd.defaults = .none
  ps : fd.params.args.map (·.arg) = ps
/-- how a call binds, at the heap's own state -/
theorem Plain.binds {fd : FuncData} {ps ks : List Str} {pm : List Nat} {us ws : List Value} (P : Plain fd ps) (hc : okCall ps us.length ks pm = true) (hl : ks.length = ws.length) (s : Shared) : BindsTo s fd ⟨us, ks.zip ws⟩ (ps.zip (pmU pm (us ++ ws))) := by
  unfold okCall at hc
  simp only [Bool.and_eq_true] at hc
  obtain ⟨⟨⟨h1, h2⟩, h3⟩, h4⟩ := hc
  have h1 := of_decide_eq_true h1
  have h3 := of_decide_eq_true h3
  refine .of_eq ?_
  rw [bind_kw P.po P.va P.ko P.kw P.df P.ps h1 hl (fun k hk => of_decide_eq_true (List.all_eq_true.mp h2 k hk)) h3 (okPm_all h4)]
  rw [pm_bind h3 (by rw [List.length_append, List.length_append, List.length_take, hl]; omega) h4]
  rfl

/-! ### the promise of a def -/
def spC (K : PySem.W.Frag) (Cf : List D → Sto → R D) (np : Nat) : Sp := fun vs H Q E => vs.length = np ∧ ∃ μ st ds, RSt K H μ st ∧ RDs K H μ ds vs ∧ Aft K E μ H (Cf ds st) (KD K Q)
section
variable {K : PySem.W.Frag} {E : XK} {μ μ' : List Addr} {H H' : Hp} {st st' : Sto}
theorem RO.below {o : O} {a : Addr} (h : RO K H μ o a) : o.blw μ.length = true := by
  cases o with
  | lst ds => obtain ⟨vs, _, h2⟩ := h; exact RDs.below ds h2
  | ins c fs => obtain ⟨dx, vs, _, h2, _⟩ := h; exact h2.below
  | dic kvs => obtain ⟨ws, _, _, h2⟩ := h; exact RDs.below _ h2
theorem RO.shrink {o : O} {a : Addr} (p : Pre μ μ') (b : o.blw μ.length = true) (h : RO K H μ' o a) : RO K H μ o a := by
  cases o with
  | lst ds => obtain ⟨vs, h1, h2⟩ := h; exact ⟨vs, h1, RDs.shrink p ds b h2⟩
  | ins c fs => obtain ⟨dx, vs, h1, h2, h3⟩ := h; exact ⟨dx, vs, h1, h2.shrink p b, h3⟩
  | dic kvs => obtain ⟨ws, h1, h3, h2⟩ := h; exact ⟨ws, h1, h3, RDs.shrink p _ b h2⟩
/-- what was made and no one sees may be forgotten -/
theorem gc_world {d : D} (hs : RSt K H μ st) (x : Ext μ H μ' H') (hs' : RSt K H' μ' st') : ∃ μ2, Pre μ2 μ' ∧ Ext μ H μ2 H' ∧ RSt K H' μ2 (gc st d st') ∧ (μ2 = μ' ∨ d.blw μ2.length = true) := by
  unfold gc
  split
  · rename_i c
    obtain ⟨c1, c2, c3⟩ := c
    have c1 : d.blw μ.length = true := by rw [hs.len]; exact c1
    refine ⟨μ, x.pre, ⟨List.prefix_refl _, x.mono, fun a ha => .inl ha, x.keep, x.there⟩, ⟨?_, hs.nd, fun n o a e1 e2 => ?_, hs'.tab⟩, .inr c1⟩
    · rw [List.length_take, hs.len]; omega
    · have hn : n < st.length := by rw [← hs.len]; exact (List.getElem?_eq_some_iff.mp e2).1
      rw [List.getElem?_take_of_lt hn] at e1
      have q := hs'.at_ n o a e1 (pre_get x.pre e2)
      refine q.shrink x.pre ?_
      rcases c3 n hn with z | ⟨o', z, b⟩
      · rw [e1] at z
        exact (hs.at_ n o a z.symm e2).below
      · rw [e1] at z; cases z
        rw [hs.len]; exact b
  · exact ⟨μ', List.prefix_refl _, x, hs', .inl rfl⟩
theorem gc_of {d : D} {Q : VK} (hs : RSt K H μ st) (h : Aft K E μ H (some (.ok d, gc st d st')) (KD K Q)) (x : Ext μ H μ' H') (hs' : RSt K H' μ' st') {v : V} (r : RD K H' μ' d v) : Q v H' := by
  obtain ⟨μ2, p, x2, h2, c⟩ := gc_world (d := d) hs x hs'
  refine h.ok x2 h2 v ?_
  rcases c with rfl | c
  · exact r
  · exact RD.shrink p d c r
theorem fin_of {r : R Fl} {Q : VK} (hs : RSt K H μ st) (h : Aft K E μ H (fin st r) (KD K Q)) : Aft K E μ H r (KF K { nx := fun _ H' => Q .non H', rt := Q }) := by
  cases r with
  | none => exact h.none.elim
  | some p =>
    obtain ⟨y, st'⟩ := p
    cases y with
    | error e =>
      refine ⟨_, _, rfl, fun μ' H' c od x hs' ⟨q1, q2⟩ => ?_⟩
      obtain ⟨μ2, p, x2, h2, c2⟩ := gc_world (d := .tup (e.fs.map (·.2))) hs x hs'
      obtain ⟨z, s2, e1, hz⟩ := h
      have e1 : some (Except.error e, gc st (.tup (e.fs.map (·.2))) st') = some (z, s2) := e1
      cases e1
      refine hz μ2 H' c od x2 h2 ⟨q1, ?_⟩
      unfold RXd at q2 ⊢
      cases od with
      | none => exact q2
      | some d =>
        obtain ⟨vs, e3, e4⟩ := q2
        refine ⟨vs, e3, ?_⟩
        rcases c2 with rfl | c2
        · exact e4
        · exact e4.shrink p c2
    | ok f =>
      refine ⟨_, _, rfl, fun μ' H' x hs' => ?_⟩
      cases f with
      | rt d => exact fun v rv => gc_of hs h x hs' rv
      | nx env => exact fun σ _ => gc_of hs h x hs' (d := .non) rfl
      | bk env => exact h.none.elim
      | ct env => exact h.none.elim
end
end MP

set_option Elab.async false
set_option linter.all false
set_option maxRecDepth 100000
set_option maxHeartbeats 2000000
/-! try with any number of except clauses, each with a name or without -/
namespace MP
open PySem PySem.Spec PyProof.Rows L2
abbrev Clause := Value × Option Nat × (Addr → Value → Option Addr → TS)
/-- the ends behind a suite whose exception stands in slot i -/
def gone (i : Nat) (D : Ends) : Ends := { nx := fun σ' H' => D.nx (σ'.set i none) H', rt := D.rt, bk := fun σ' H' => D.bk (σ'.set i none) H', ct := fun σ' H' => D.ct (σ'.set i none) H' }
def wHs (K : PySem.W.Frag) (Wout : WX) (D : Ends) : List Clause → WX
  | [] => Wout
  | (c, none, ts) :: r => fun cls d σ H => ∃ b, PySem.W.exmOne K cls c = some b ∧ (b = true → ∀ a, H a = none → ts a cls d D σ H) ∧ (b = false → wHs K Wout D r cls d σ H)
  | (c, some i, ts) :: r => fun cls d σ H => ∃ b, PySem.W.exmOne K cls c = some b ∧ (b = true → ∀ a, H a = none → ts a cls d (gone i D) (σ.set i (some (.ref a))) H) ∧ (b = false → wHs K Wout D r cls d σ H)
inductive HdsN (X : Cx) : List ExceptHandler → List Clause → Prop
  | nil : HdsN X [] []
  | plain {x : Str} {c : Value} {ts : Addr → Value → Option Addr → TS} {b₀ : Stmt} {suite : List Stmt} {np pos' : Pos} {hds : List ExceptHandler} {l : List Clause} (hc : Names X x c)
      (hsu : ∀ (a : Addr) (oe : Obj) (cls : Value) (d : Option Addr) (pn : List (Addr × Obj)), Zc cls d oe → (∃ vs, oe.data = .fields vs) → PSs (X.suite a ((a, oe) :: pn)) (b₀ :: suite) (ts a cls d)) (r : HdsN X hds l) :
      HdsN X (.ExceptHandler (some (.Name x np)) none (b₀ :: suite) pos' :: hds) ((c, none, ts) :: l)
  | named {x n : Str} {i : Nat} {c : Value} {ts : Addr → Value → Option Addr → TS} {b₀ : Stmt} {suite : List Stmt} {np pos' : Pos} {hds : List ExceptHandler} {l : List Clause} (hi : X.N[i]? = some n) (hln : X.env.kindOf n = some .local) (hc : Names X x c)
      (hsu : ∀ (a : Addr) (oe : Obj) (cls : Value) (d : Option Addr) (pn : List (Addr × Obj)), Zc cls d oe → (∃ vs, oe.data = .fields vs) → PSs (X.suite a ((a, oe) :: pn)) (b₀ :: suite) (ts a cls d)) (r : HdsN X hds l) :
      HdsN X (.ExceptHandler (some (.Name x np)) (some n) (b₀ :: suite) pos' :: hds) ((c, some i, ts) :: l)
section
variable {X : Cx} {body : List Stmt} {h₀ : ExceptHandler} {hds : List ExceptHandler} {l : List Clause} {pos : Pos} {tb : WX → TS} {Wout : WX}
theorem ps_tryN (hs : X.stack = X.env :: X.outer) (hf : X.env.frame = some X.env.locals) (hN : X.N.Nodup) (tk : Takes X Wout)
    (hb : ∀ (W : WX) (pn : List (Addr × Obj)) (xe : Value → Shared → Prop), Takes (X.tr pn xe) W → PassesOwn (model X.prog X.w) X.A X.env xe → PSs (X.tr pn xe) body (tb W))
    (hh : HdsN X (h₀ :: hds) l) : PS X (.Try body (h₀ :: hds) [] [] pos) (fun D σ H => tb (wHs X.K Wout D l) D σ H) := by
  refine ⟨fun pins s σ H D I h => ?_⟩
  have ok := I.ok
  have hfr : X.A.frames = some (X.env :: X.outer) := by rw [ok.frames, hs]
  refine wpAny_Try_except ?_
  refine wpAny_mono ((hb (wHs X.K Wout D l) (X.pn ++ pins) (fun e s₁ => wpAny (model X.prog X.w) X.A (noteFrame e X.env) (fun _ s₂ => wpAny (model X.prog X.w) X.A (setFlight e none) (fun _ s₃ =>
    wpAny (model X.prog X.w) X.A (handleBy e X.env (h₀ :: hds)) (SP X pins D) X.xe s₃) X.xe s₂) X.xe s₁) (fun u s' xx => ?_) PassesOwn.looking).run [] s σ H D (I.toTry _) h) (fun f s1 hsp => ?_) (fun e s1 he => he)
  · obtain ⟨a, B, sI, pins', σ', H', cls, d, rfl, J', nb, up, sky, na, os, ag, w⟩ := xx
    have J : Inv X pins σ' H' sI := J'.ofTry ok
    have sky' : Sky B (X.env :: X.outer) a (Zc cls d) X.env.locals s'.heap := by rw [← hs]; exact sky
    show wpAny (model X.prog X.w) X.A (noteFrame (.ref a) X.env) _ _ _
    refine Sky.land Zc.steady hfr hf sky' fun h3 fl3 up3 => ?_
    have J3 : Inv X pins σ' H' { s' with heap := h3 } := J.landed nb fl3.1 (up.trans up3) os ag
    obtain ⟨oe3, vs3, he3, hz3, hd3⟩ := fl3.there
    have notFr : ∀ {h : Heap} {o : Obj} {vs : Array Value}, h.FunFrames B (X.env :: X.outer) → h.get? a = some o → o.data = .fields vs → a ∉ frs (X.env :: X.outer) := fun {h o vs} ff e dd hm => by
      obtain ⟨_, o', e', hnf⟩ := ff.mem hm
      rw [e] at e'; cases e'
      exact hnf _ dd
    have nfr := notFr fl3.2.2.1 he3 hd3
    have nL : a ≠ X.env.locals := fun z => nfr (List.mem_filterMap.mpr ⟨X.env, List.mem_cons_self, by rw [hf, z]⟩)
    have nF : a ∉ X.fs := fun hm => by
      obtain ⟨e, he, q⟩ := List.mem_filterMap.mp hm
      exact nfr (List.mem_filterMap.mpr ⟨e, List.mem_cons_of_mem _ he, q⟩)
    have S3 := J3.suite he3 hd3 na nL nF
    have LT : PySem.W.Looks (model X.prog X.w) h3 (typeOf (.ref a)) cls := fun A Q E s k q => wpAny_typeOf_ref (k _ _ he3) (by rw [hz3.1]; exact q)
    have test : ∀ {x : Str} {c : Value} {np : Pos}, Names X x c → ∀ {Q : Value → Shared → Prop} {E : Value → Shared → Prop}, Q c { s' with heap := h3 } → wpAny (model X.prog X.w) (X.A.mark (some (.ref a))) (eval (.Name x np) X.env) Q E { s' with heap := h3 } := fun {x c np} hc {Q E} q => by
      obtain ⟨hg, hdbg, hm | ⟨hm, hv, hnn⟩⟩ := hc
      · exact ld_glob (X := X.suite a ((a, oe3) :: (X.pn ++ pins))) S3 hg hm q hdbg
      · exact ld_blt (X := X.suite a ((a, oe3) :: (X.pn ++ pins))) S3 hg hm hv q hnn hdbg
    have go : ∀ {hds' : List ExceptHandler} {l' : List Clause}, HdsN X hds' l' → wHs X.K Wout D l' cls d σ' H' →
        wpAny (model X.prog X.w) X.A (handleBy (.ref a) X.env hds') (SP X pins D) X.xe { s' with heap := h3 } := by
      intro hds' l' hk
      induction hk with
      | nil =>
        intro w
        refine wpAny_handleBy_nil ?_
        obtain ⟨k1, k2, k3, oe, vs, T, oT, ts', he, hz, hd, h1, hr⟩ := id fl3
        unfold PySem.passOn
        refine wpAny_bind (wpAny_field he hd h1 ?_)
        rw [if_neg (show ¬ ((Value.ref T == Value.none) = true) from by simp)]
        have fin : wpAny (model X.prog X.w) X.A (setFlight (.ref a) X.env.frame) (fun _ s4 => wpAny (model X.prog X.w) X.A (throw (.ref a) : Sem Flow) (SP X pins D) X.xe s4) X.xe { s' with heap := h3 } := by
          rw [hf]
          refine HandSPX.setFlight_upZ fl3 fun h4 hh4 up4 => wpAny_throw (tk _ _ ?_)
          exact ⟨a, B, sI, pins, σ', H', cls, d, rfl, J, nb, (up.trans up3).trans up4, .inr (.inr (by rw [hs]; exact hh4)), na, os, ag, w⟩
        first
          | exact wpAny_bind (wpAny_pure (wpAny_bind fin))
          | exact wpAny_bind fin
      | @plain x c ts b₀ suite np pos' hds2 l2 hc hsu r ih =>
        intro w
        obtain ⟨b, hb1, hyes, hno⟩ := w
        refine wpAny_handleBy_cons (codeAny_handlers_test ?_) (by intro q; cases q)
        have LM := PySem.W.exm_one (M := model X.prog X.w) (J3.kIn) LT hb1
        refine test hc (LM.here ?_)
        cases b with
        | true =>
          refine codeAny_handlers_suite ?_
          refine HandSPX.lands_againZ fl3 fun h4 fl4 up4 => ?_
          have J4 : Inv X pins σ' H' { s' with heap := h4 } := J.landed nb fl4.1 ((up.trans up3).trans up4) os ag
          obtain ⟨oe4, vs4, he4, hz4, hd4⟩ := fl4.there
          have S4 := J4.suite he4 hd4 na nL nF
          refine wpAny_mono ((hsu a oe4 cls d (X.pn ++ pins) hz4 ⟨_, hd4⟩).run [] _ _ H' _ S4 (hyes rfl a na)) (fun f s6 hsp => ?_) (fun _ _ z => False.elim z)
          cases f with
          | next =>
            obtain ⟨σ6, H6, S6, q6⟩ := hsp
            exact ⟨_, _, S6.unsuite ok, q6⟩
          | brk =>
            obtain ⟨σ6, H6, S6, q6⟩ := hsp
            exact ⟨_, _, S6.unsuite ok, q6⟩
          | cont =>
            obtain ⟨σ6, H6, S6, q6⟩ := hsp
            exact ⟨_, _, S6.unsuite ok, q6⟩
          | ret u =>
            obtain ⟨v6, σ6, H6, S6, r6, q6⟩ := hsp
            exact ⟨_, _, _, S6.unsuite ok, r6, q6⟩
        | false =>
          show wpAny _ X.A (handleBy (.ref a) X.env hds2) _ _ _
          exact ih (hno rfl)
      | @named x n i c ts b₀ suite np pos' hds2 l2 hi hln hc hsu r ih =>
        intro w
        have hloc : Loc X.env.scope n := .inl hln
        obtain ⟨b, hb1, hyes, hno⟩ := w
        refine wpAny_handleBy_cons (codeAny_handlers_test ?_) (by intro q; cases q)
        have LM := PySem.W.exm_one (M := model X.prog X.w) (J3.kIn) LT hb1
        refine test hc (LM.here ?_)
        cases b with
        | true =>
          refine codeAny_handlers_suite_as ?_
          refine HandSPX.lands_againZ fl3 fun h4 fl4 up4 => ?_
          have J4 : Inv X pins σ' H' { s' with heap := h4 } := J.landed nb fl4.1 ((up.trans up3).trans up4) os ag
          obtain ⟨oe4, vs4, he4, hz4, hd4⟩ := fl4.there
          have S4 := J4.suite he4 hd4 na nL nF
          refine store_ok (X := X.suite a ((a, oe4) :: (X.pn ++ pins))) (v := .ref a) S4 hN hi hloc rfl (fun s5 S5 => ?_) (.inr hln)
          refine wpAny_mono ((hsu a oe4 cls d (X.pn ++ pins) hz4 ⟨_, hd4⟩).run [] s5 _ H' _ S5 (hyes rfl a na)) (fun f s6 hsp => ?_) (fun _ _ z => False.elim z)
          have end_ : ∀ {σ6 : L2.St} {H6 : Hp} {Q : Shared → Prop}, Inv (X.suite a ((a, oe4) :: (X.pn ++ pins))) [] σ6 H6 s6 → (∀ s7, Inv X pins (σ6.set i none) H6 s7 → Q s7) →
              wpAny (model X.prog X.w) X.A (do bindName X.env n .none; unbindBehindTheSuite X.env n pos') (fun _ s7 => Q s7) X.xe s6 := fun {σ6 H6 Q} S6 hq => gone_ok (S6.unsuite ok) hN hi hln hq
          cases f with
          | next =>
            obtain ⟨σ6, H6, S6, q6⟩ := hsp
            exact end_ S6 fun s7 J7 => ⟨_, _, J7, q6⟩
          | brk =>
            obtain ⟨σ6, H6, S6, q6⟩ := hsp
            exact end_ S6 fun s7 J7 => ⟨_, _, J7, q6⟩
          | cont =>
            obtain ⟨σ6, H6, S6, q6⟩ := hsp
            exact end_ S6 fun s7 J7 => ⟨_, _, J7, q6⟩
          | ret u =>
            obtain ⟨v6, σ6, H6, S6, r6, q6⟩ := hsp
            exact end_ S6 fun s7 J7 => ⟨_, _, _, J7, r6, q6⟩
        | false =>
          show wpAny _ X.A (handleBy (.ref a) X.env hds2) _ _ _
          exact ih (hno rfl)
    exact go hh w
  · cases f with
    | next =>
      obtain ⟨σ', H', J', q⟩ := hsp
      exact wpAny_execs_nil ⟨σ', H', J'.ofTry ok, q⟩
    | brk =>
      obtain ⟨σ', H', J', q⟩ := hsp
      exact ⟨σ', H', J'.ofTry ok, q⟩
    | cont =>
      obtain ⟨σ', H', J', q⟩ := hsp
      exact ⟨σ', H', J'.ofTry ok, q⟩
    | ret u =>
      obtain ⟨v, σ', H', J', r, q⟩ := hsp
      exact ⟨v, σ', H', J'.ofTry ok, r, q⟩
end
end MP

set_option Elab.async false
set_option linter.all false
set_option maxRecDepth 100000
set_option maxHeartbeats 4000000
/-! raise X(e), X an own class whose __init__ says super().__init__(f); self.f = f -/
namespace MP
namespace Sup
open PySem PySem.Spec PySem.W PySem.Calls PyProof.Rows PySem.HandSPX
def iA (f : Str) (p1 p2 : Pos) : Arguments := { posonlyargs := [], args := [{ arg := "self", annotation := none, pos := p1 }, { arg := f, annotation := none, pos := p2 }], vararg := none, kwonlyargs := [], kw_defaults := [], kwarg := none, defaults := [] }
def iB (f : Str) (q1 q2 q3 q4 q5 q6 q7 q8 q9 q10 : Pos) : List Stmt := [.Expr (.Call (.Attribute (.Call (.Name "super" q1) [] [] q2) "__init__" q3) [.Name f q4] [] q5) q6, .Assign [.Attribute (.Name "self" q7) f q8] (.Name f q9) q10]
def iS (f : Str) : Scope := { kind := .function, names := [(PySem.Str.ofString "self", .local), (f, .local), (PySem.Str.ofString "__class__", .free), (PySem.Str.ofString "super", .globalImplicit)], isGenerator := false, isCoroutine := false, more := [] }
def fOk (f : Str) : Bool := !(f == ("self" : Str)) && !(f == ("super" : Str)) && !(f == ("__class__" : Str)) && !(f == ("__debug__" : Str))
/-- what the written part says of the class at C, and of its __init__, at fI -/
structure SupTxt (P : Program) (K : Frag) (mg : Str → Option Value) (C fI : Addr) (x f : Str) : Prop where
  fok : fOk f = true
  gC : mg x = some (.ref C)
  sup : mg "super" = none
  cls : ∃ nm q N bs bm sn sub ab col dd k0 k1 k2 k3 k5, K.lookup C = some (excClassObj nm q C N bs bm true sn sub ab col dd k0 k1 k2 k3 k5 "ValueError.__new__") ∧ refsVE bm = true ∧ alongIn K "__init__" bm = some (some (.builtin "ValueError.__init__"))
  sa : findIn K (.ref C) "__setattr__" = some (some (.builtin "object.__setattr__"))
  ga : findIn K (.ref C) "__getattribute__" = some (some (.builtin "BaseException.__getattribute__"))
  gg : findIn K (.ref C) "__getattr__" = some none
  noN : findIn K (.ref C) f = some none
  iC : findIn K (.ref C) "__init__" = some (some (.ref fI))
  tC : typeIn K (.ref fI) = some (.type "function")
  kC : keepIn K (.ref C) = true
  exC : subIn K (.ref C) (.type "BaseException") = some true
  vE : subIn K (.ref C) (.type "ValueError") = some true
  tyC : typeIn K (.ref C) = some (.type "type")
  hdC : hasDictIn K C = true
  slf : mroIn K C (.ref C) = some true
  any : nsIn K cStatics "thirdparty.any" = some none
  fn : ∃ (oc : Value) (od : Option Addr) (qual : Str) (doc pm : Value) (an : Option Addr) (cda cc : Addr) (ct : Value) (osl : Array (Option Value)) (p1 p2 q1 q2 q3 q4 q5 q6 q7 q8 q9 q10 : Pos),
    K.lookup fI = some ⟨oc, od, .func (fnX "__init__" qual (iA f p1 p2) (iB f q1 q2 q3 q4 q5 q6 q7 q8 q9 q10) (iS f) [("__class__", cc)] .none .none doc pm an (.ref cda) ct), osl⟩ ∧ codeIn K (.ref cda) qual = true ∧ (q3.endLine == q5.line) = true ∧
    (∃ cl cld csl, K.lookup cc = some ⟨cl, cld, .cell (some (.ref C)), csl⟩) ∧
    ∃ ccl cdd vs ccs file tf, K.lookup cda = some ⟨ccl, cdd, .fields vs, ccs⟩ ∧ vs[2]? = some (.str file tf) ∧ ((P.main.file : Str) == file) = true
  top : (P.main.scope.names.lookup ("super" : Str)).isSome = false
theorem one_size (v : Value) : [v].length ≤ sizeLine := by
  rw [sizeLine_eq]
  exact (by decide : 1 ≤ 16777216)
/-- what __init__ leaves of a fresh exception at x -/
structure InitEnd (h h' : Heap) (x C dx t1 : Addr) (f : Str) (v : Value) : Prop where
  keep : ∀ b o, b ≠ x → h.get? b = some o → h'.get? b = some o
  obj : h'.get? x = some { cls := .ref C, dict := some dx, data := .fields #[.ref t1, .none, .none, .none, .bool false, .none] }
  dbig : h.objs.size ≤ dx
  dne : dx ≠ x
  ns : h'.Ns1 dx (fun y => if y = f then some v else none)
structure OwnMade (h h' : Heap) (e C d : Addr) (f : Str) (v : Value) : Prop where
  keep : ∀ b o, h.get? b = some o → h'.get? b = some o
  new : h.objs.size ≤ e
  obj : ∃ oe vs, h'.get? e = some oe ∧ oe.cls = .ref C ∧ oe.dict = some d ∧ oe.data = .fields vs ∧ vs[1]? = some .none
  dbig : h.objs.size ≤ d
  dne : d ≠ e
  ns : h'.Ns1 d (fun y => if y = f then some v else none)
theorem boot_super : bootBuiltins "super" = some (.type "super") := by
  first
  | exact PyProof.Rows.Boot.«super»
  | kernel_rfl
section
variable {prog : Program} {w : World} {A : Around} {E : Value → Shared → Prop} {R : Result → Shared → Prop} {s : Shared} {K : Frag} {mg : Str → Option Value} {C fI : Addr} {x f : Str} {base : Heap}
theorem ns_keep {h h' : Heap} {L : Addr} {m : Str → Option Value} (hn : h.Ns L m) (k : ∀ o, h.get? L = some o → h'.get? L = some o) : h'.Ns L m := by
  obtain ⟨oL, es, ep, hL, r⟩ := hn
  exact ⟨oL, es, ep, k _ hL, r⟩
theorem sup_init (T : SupTxt prog K mg C fI x f) {e t0 : Addr} {v : Value} (M : L2.Mod K mg base) (hb : ∀ b o, base.get? b = some o → s.heap.get? b = some o) (hx : s.heap.get? e = some (excO C t0)) (hnx : K.lookup e = none) (hnb : base.get? e = none) (hroom : A.depth < recursionLimit)
    (hq : ∀ h' tk dx t1, InitEnd s.heap h' e C dx t1 f v → R (.ok (.ret .none)) { s with heap := h', toks := tk }) :
    codeAny (model prog w) A (.call (.ref fI) ⟨[.ref e, v], []⟩) R s := by
  obtain ⟨oc, od, qual, doc, pm, an, cda, cc, ct, osl, p1, p2, q1, q2, q3, q4, q5, q6, q7, q8, q9, q10, ho, hcd, hline, ⟨cl, cld, csl, hcell⟩, ccl, cdd, vs, ccs, file, tf, hcode, hvs, hfile⟩ := T.fn
  obtain ⟨nm, q, N, bs, bm, sn, sub, ab, col, dd, k0, k1, k2, k3, k5, hC, hbm, hal⟩ := T.cls
  have X : K.In s.heap := M.kin.keeps hb
  have hlim : s.heap.NoLimit := M.nolimit.keeps hb
  have hfo := T.fok
  unfold fOk at hfo
  simp only [Bool.and_eq_true, Bool.not_eq_true', beq_eq_false_iff_ne] at hfo
  obtain ⟨⟨⟨f1, f2⟩, f3⟩, f4⟩ := hfo
  have hcl : clsIn K C = some { name := nm, bases := bs, mro := .ref C :: bm, ns := N, qualname := q, hasDict := true, slotNames := sn, subclasses := sub, abstract := ab, collection := col, hasDel := false } := by unfold clsIn; rw [hC] <;> rfl
  have lk1 : (iS f).names.lookup ("self" : Str) = some .local := by unfold iS; exact List.lookup_cons_self
  have ne1 : (f == ("self" : Str)) = false := beq_eq_false_iff_ne.mpr f1
  have lkf : (iS f).names.lookup f = some .local := by
    unfold iS
    show List.lookup f (((PySem.Str.ofString "self"), NameKind.local) :: (f, .local) :: _) = _
    rw [List.lookup_cons, show (f == PySem.Str.ofString "self") = false from ne1, List.lookup_cons_self]
  have lks : (iS f).names.lookup ("super" : Str) = some .globalImplicit := by
    unfold iS
    show List.lookup (PySem.Str.ofString "super") (((PySem.Str.ofString "self"), NameKind.local) :: (f, .local) :: (PySem.Str.ofString "__class__", .free) :: (PySem.Str.ofString "super", .globalImplicit) :: _) = _
    rw [List.lookup_cons, show (PySem.Str.ofString "super" == PySem.Str.ofString "self") = false by decide, List.lookup_cons, show (PySem.Str.ofString "super" == f) = false from beq_eq_false_iff_ne.mpr fun z => f2 z.symm, List.lookup_cons, show (PySem.Str.ofString "super" == PySem.Str.ofString "__class__") = false by decide, List.lookup_cons_self]
  have lkc : (iS f).names.lookup ("__class__" : Str) = some .free := by
    unfold iS
    show List.lookup (PySem.Str.ofString "__class__") (((PySem.Str.ofString "self"), NameKind.local) :: (f, .local) :: (PySem.Str.ofString "__class__", .free) :: _) = _
    rw [List.lookup_cons, show (PySem.Str.ofString "__class__" == PySem.Str.ofString "self") = false by decide, List.lookup_cons, show (PySem.Str.ofString "__class__" == f) = false from beq_eq_false_iff_ne.mpr fun z => f3 z.symm, List.lookup_cons_self]
  have hbind : BindsTo s (fnX "__init__" qual (iA f p1 p2) (iB f q1 q2 q3 q4 q5 q6 q7 q8 q9 q10) (iS f) [("__class__", cc)] .none .none doc pm an (.ref cda) ct) ⟨[.ref e, v], []⟩ [("self", .ref e), (f, v)] := by
    have P : MP.Plain (fnX "__init__" qual (iA f p1 p2) (iB f q1 q2 q3 q4 q5 q6 q7 q8 q9 q10) (iS f) [("__class__", cc)] .none .none doc pm an (.ref cda) ct) ["self", f] := ⟨rfl, rfl, rfl, rfl, rfl, rfl⟩
    have hok : MP.okCall ["self", f] ([.ref e, v] : List Value).length [] [0, 1] = true := by
      have f1' : ¬ PySem.Str.ofString "self" = f := fun z => f1 z.symm
      simp [MP.okCall, MP.okPm, f1']
    letI : MP.Gb := ⟨[], [], []⟩
    exact P.binds (us := [.ref e, v]) (ws := []) (ks := []) (pm := [0, 1]) hok rfl s
  refine ks_codeAny_call_defAt (binds := [("self", .ref e), (f, v)]) hroom (X _ _ ho) rfl hlim (codeRec_of X hcd) rfl hbind ?_ ?_ (fun h₁ hns hk₁ => ?_) rfl rfl rfl
  · intro y hy
    have hy : y ∈ [(PySem.Str.ofString "self", NameKind.local), (f, .local), (PySem.Str.ofString "__class__", .free), (PySem.Str.ofString "super", .globalImplicit)] := hy
    simp only [List.mem_cons, List.not_mem_nil, or_false] at hy
    rcases hy with rfl | rfl | rfl | rfl <;> intro z <;> cases z
  · intro y hy
    rcases List.mem_cons.mp hy with rfl | hy
    · exact lk1
    · rw [List.mem_singleton.mp hy]; exact lkf
  have X₁ : K.In h₁ := X.keeps hk₁
  have b₁ : ∀ b o, base.get? b = some o → h₁.get? b = some o := fun b o z => hk₁ b o (hb b o z)
  have eL : s.heap.objs.size ≠ e := Nat.ne_of_gt (Heap.lt_size hx)
  have hx₁ := hk₁ _ _ hx
  have mself : (fun y => ([("self", .ref e), (f, v)] : List (Str × Value)).reverse.lookup y) ("self" : Str) = some (.ref e) := by
    show List.lookup ("self" : Str) [(f, v), ("self", Value.ref e)] = _
    rw [List.lookup_cons, show (("self" : Str) == f) = false from beq_eq_false_iff_ne.mpr fun z => f1 z.symm, List.lookup_cons_self]
  have mf : (fun y => ([("self", .ref e), (f, v)] : List (Str × Value)).reverse.lookup y) f = some v := by
    show List.lookup f [(f, v), ("self", Value.ref e)] = _
    rw [List.lookup_cons_self]
  have he : ∀ env : PySem.Env, eval (.Call (.Attribute (.Call (.Name "super" q1) [] [] q2) "__init__" q3) [.Name f q4] [] q5) env = (do
      let ov ← attributeBase (.Call (.Name "super" q1) [] [] q2) "__init__" env (eval (.Call (.Name "super" q1) [] [] q2) env)
      standAt q3.atName
      let (g, first) ← holding [ov] (getMethod ov "__init__" (do return (← importBound (.Call (.Name "super" q1) [] [] q2) env).getD true))
      callWith q5 g first (backTo q5 (starEach [.Name f q4] env)) []) := fun env => by
    have hpos : methodCallPos true (.Call (.Name "super" q1) [] [] q2) env q3 q5 = pure q5 := by unfold methodCallPos; simp [hline]
    have hform : methodCallForm ([Expr.Name f q4].length + ([] : List Keyword).length) (backTo q5 (starEach [.Name f q4] env)) (backToKw q5 (keywordEach [] env)) = true := rfl
    rw [arm_eval_Call]
    unfold methodCall
    rw [hform]
    simp only [hpos, pure_bind]
    rfl
  refine ks_wpAt_execs_cons (ks_wpAt_Expr_any (ks_wpAt_MethodCall ?_ (he _)) rfl rfl)
  refine ks_wpAt_super_base (cc := cda) lks lkc (by decide) rfl (X₁ _ _ ho) rfl rfl rfl (X₁ _ _ hcode) rfl hvs hfile T.top ?_
  obtain ⟨mb, hb1, hb2⟩ := M.blt
  refine ks_loadName_global rfl lks (loadGlobal_builtin (M.glob.keeps b₁) T.sup (hb1.keeps b₁) ((hb2 _ (by decide)).trans boot_super) ⟨rfl, ?_⟩)
  refine wpAny_loadName_free rfl lkc rfl ⟨_, X₁ _ _ hcell, rfl⟩ ?_
  refine wpAny_loadName_local rfl lk1 hns mself ?_
  refine ks_wpAny_isType_cls (X₁ _ _ hC) rfl ⟨rfl, ?_⟩
  refine ks_wpAny_call_super (X₁ _ _ hC) rfl hx₁ rfl (fun c z => by cases z) (looks_mroIn X₁ T.slf) (fun h₂ hso hk₂ => ?_)
  have X₂ : K.In h₂ := X₁.keeps hk₂
  have hx₂ := hk₂ _ _ hx₁
  have I₂ : InstAt h₂ e (excO C t0) C none := ⟨hx₂, rfl, rfl, trivial⟩
  have hI : Looks (model prog w) h₂ (isInstance (.ref e) (.type "ValueError")) true := I₂.type.andThen (looks_subIn X₂ T.vE)
  refine kxs_getMethod (K := K) (l₀ := .ref C :: bm) (l := bm) kxs_ValueError hso (looks_opaque X₂ T.any) ?_ ?_ X₂ hal hI (ks_ne X₂ I₂ hcl) (by decide) ?_
  · exact fun A Q E s k q => wpAny_bind ((looks_clsIn X₂ hcl) A _ E s k (wpAny_pure q))
  · simp [List.dropWhile_cons]
  have hk₃ : ∀ b o, h₂.get? b = some o → (h₂.push (kxs_mw "ValueError.__init__" e)).get? b = some o := fun b o z => Heap.get?_push_of_some _ z
  have hu : (h₂.push (kxs_mw "ValueError.__init__" e)).get? h₂.objs.size = some (kxs_mw "ValueError.__init__" e) := Heap.get?_push_at rfl rfl
  have ns₃ := ns_keep hns (h' := h₂.push (kxs_mw "ValueError.__init__" e)) fun o z => hk₃ _ _ (hk₂ _ _ z)
  have X₃ : K.In (h₂.push (kxs_mw "ValueError.__init__" e)) := X₂.keeps hk₃
  have hx₃ := hk₃ _ _ hx₂
  show wpAny _ _ (callWith _ _ [] (backTo _ ((false, eval (.Name f q4) _) :: starEach [] _)) []) _ _ _
  refine kxs_callWith (i := "ValueError.__init__") (x := e) rfl (evalArgs_plain ?_)
  refine spliced_cons (wpAny_Name (wpAny_loadName_local rfl lkf ns₃ mf ?_) (beq_eq_false_iff_ne.mpr f4))
  refine spliced_nil ⟨hu, ?_⟩
  refine wpAny_call (codeAny_of_tree ?_)
  show wpAny _ _ (callAny (.ref h₂.objs.size) ⟨[v], []⟩) _ _ _
  simp only [callAny]
  refine wpAny_bind (wpAny_load hu ?_)
  simp only [kxs_mw, show (Value.type "method-wrapper" == Value.type "method" || Value.type "method-wrapper" == Value.type "builtin_function_or_method" || Value.type "method-wrapper" == Value.type "method-wrapper") = true by decide, if_true]
  refine KFB.if_so (by decide) ?_
  refine wpAny_bind (check_bound_init F.excBase_ValueError.toExcCallFacts (X₃ _ _ hC) hx₃ rfl ?_)
  refine wpAny_bind (wpAny_pure (wpAny_pure ?_))
  refine ⟨plainId_quiet F.excBase_ValueError.init.plain _, codeAny_builtin F.excBase_ValueError.initEntry ?_⟩
  refine exc_init_tree (cls := .ref C) (t0 := t0) (dv := none) (c2 := .none) (c3 := .none) (b4 := .bool false) hx₃ (one_size v) fun h₄ k₄ hx₄ ht₄ => ?_
  have k14 : ∀ b o, b ≠ e → h₁.get? b = some o → h₄.get? b = some o := fun b o z y => k₄ b o z (hk₃ b o (hk₂ b o y))
  have X₄ : K.In h₄ := fun b o z => k14 b o (fun y => by rw [y, hnx] at z; cases z) (X₁ b o z)
  have ns₄ := ns_keep hns (h' := h₄) fun o z => k14 _ _ eL z
  refine wpAt_of_wpAny (wpAny_execs_cons (plainObj_wpAny_Assign_Attribute ?_ rfl))
  refine wpAny_Name (wpAny_loadName_local rfl lkf ns₄ mf ?_) (beq_eq_false_iff_ne.mpr f4)
  refine wpAny_Name (wpAny_loadName_local rfl lk1 ns₄ mself ?_) (by decide)
  refine set_plain X₄ (ox := excO C (h₂.push (kxs_mw "ValueError.__init__" e)).objs.size) (od := none) ⟨hx₄, rfl, rfl, trivial⟩ T.sa ?_
  refine exc_osa X₄ hx₄ hcl (show refsVE (.ref C :: bm) = true from hbm) rfl T.noN (fun h₅ tk₅ dx k₅ dn dne hx₅ hn₅ => ?_)
  show wpAny _ _ (execs _ _) _ _ _
  have z1 : s.heap.objs.size < h₁.objs.size := hns.lt
  have z4 : s.heap.objs.size < h₄.objs.size := by
    obtain ⟨oL, _, _, hL, _⟩ := ns₄
    exact Heap.lt_size hL
  exact wpAny_execs_nil (hq h₅ tk₅ dx _ ⟨fun b o y z => k₅ b o y (k14 b o y (hk₁ b o z)), hx₅, Nat.le_of_lt (Nat.lt_of_lt_of_le z4 dn), dne, hn₅⟩)
end
end Sup
end MP

set_option Elab.async false
set_option linter.all false
set_option maxRecDepth 100000
set_option maxHeartbeats 4000000
namespace MP
namespace Sup
open PySem PySem.Spec PySem.W PySem.Calls PyProof.Rows PySem.HandSPX
section
variable {prog : Program} {w : World} {A : Around} {E : Value → Shared → Prop} {R : Result → Shared → Prop} {s : Shared} {K : Frag} {mg : Str → Option Value} {C fI : Addr} {x f : Str} {base : Heap}
theorem sup_made (T : SupTxt prog K mg C fI x f) {v : Value} (M : L2.Mod K mg base) (hb : ∀ b o, base.get? b = some o → s.heap.get? b = some o) (hroom : A.depth + 1 < recursionLimit)
    (hq : ∀ h' tk e d, OwnMade s.heap h' e C d f v → R (.ok (.ret (.ref e))) { s with heap := h', toks := tk }) :
    codeAny (model prog w) A (.call (.ref C) ⟨[v], []⟩) R s := by
  obtain ⟨nm, q, N, bs, bm, sn, sub, ab, col, dd, k0, k1, k2, k3, k5, hC, hbm, hal⟩ := T.cls
  obtain ⟨hp, g, dr, tk, os⟩ := s
  have X : K.In hp := M.kin.keeps hb
  have k : ∀ b o, hp.get? b = some o → ((hp.push (kdv_tup [v])).push (excO C hp.objs.size)).get? b = some o := fun b o e => Heap.get?_push_of_some _ (Heap.get?_push_of_some _ e)
  have hget : ((hp.push (kdv_tup [v])).push (excO C hp.objs.size)).get? (hp.objs.size + 1) = some (excO C hp.objs.size) := by heap_get
  have big : ∀ o, hp.get? (hp.objs.size + 1) ≠ some o := fun o z => absurd (Nat.lt_of_succ_lt (Heap.lt_size z)) (Nat.lt_irrefl _)
  have hnx : K.lookup (hp.objs.size + 1) = none := by
    cases e : K.lookup (hp.objs.size + 1) with
    | none => rfl
    | some o => exact absurd (X _ _ e) (big o)
  have hnb : base.get? (hp.objs.size + 1) = none := by
    cases e : base.get? (hp.objs.size + 1) with
    | none => rfl
    | some o => exact absurd (hb _ _ e) (big o)
  refine call_own F.excBase_ValueError (fun X => refsVE_contains X bm hbm) (X _ _ hC) (looks_findIn X T.iC) (fun self => bind_fn X self T.tC) (one_size v) ?_
  refine sup_init (s := ⟨(hp.push (kdv_tup [v])).push (excO C hp.objs.size), g, dr, tk, os⟩) T M (fun b o z => k b o (hb b o z)) hget hnx hnb ?_ fun h' tk' dx t1 ⟨k', hx, dn, dne, hns⟩ => ?_
  · show A.depth + 1 < recursionLimit
    exact hroom
  · have old : ∀ b o, hp.get? b = some o → h'.get? b = some o := fun b o e => k' b o (Nat.ne_of_lt (Nat.lt_succ_of_lt (Heap.lt_size e))) (k b o e)
    have z : hp.objs.size + 1 + 1 ≤ dx := by
      first
        | (simpa only [Heap.size_push] using dn)
        | exact dn
        | (have q := dn; rw [Heap.size_push, Heap.size_push] at q; exact q)
    exact ⟨rfl, hq h' tk' (hp.objs.size + 1) dx ⟨old, Nat.le_succ _, ⟨_, _, hx, rfl, rfl, rfl, rfl⟩, Nat.le_trans (Nat.le_trans (Nat.le_succ _) (Nat.le_succ _)) z, dne, hns⟩⟩
end
end Sup
open PySem PySem.Spec PyProof.Rows L2
theorem relO_f {fn : Str} {v : V} {v' : Value} (r : RelV v v') (f : Str) : RelO (List.lookup f [(fn, v)]) (if f = fn then some v' else none) := by
  by_cases hw : f = fn
  · subst hw
    rw [if_pos rfl]
    have q : List.lookup f [(f, v)] = some v := by simp [List.lookup]
    rw [q]
    exact r
  · rw [if_neg hw]
    have qw : (f == fn) = false := by simpa using hw
    have q2 : List.lookup f [(fn, v)] = none := by simp [List.lookup, qw]
    rw [q2]
    trivial
section
variable {X : Cx} {C fI : Addr} {x f : Str}
/-- X(e) -/
def tMkS (C : Addr) (f : Str) (ta : TA) : L2.St → Hp → XK → Prop := fun σ H Q => ta σ H fun vs H1 => ∃ v, vs = [v] ∧ ∀ d, H1 d = none → Q (.ref C) (some d) (upd H1 d (.xd [(f, v)]))
theorem pmk_sup {a : Expr} {ta : TA} {p pos : Pos} {k : Nat} (T : Sup.SupTxt X.prog X.K X.mg C fI x f) (hr : Room k X.A) (ha : PA X [a] ta) (hg : Gl X x) (hdb : (x == ("__debug__" : Str)) = false)
    (he : starEach (a :: []) X.env = (false, eval a X.env) :: starEach [] X.env) (hpl : (backTo pos (starEach [] X.env)).any (·.1) = false := by rfl) :
    PMk X (.Call (.Name x p) [a] [] pos) (tMkS C f ta) := by
  intro pins s σ H Q I h
  refine wpAny_Call_Name_kw (ld_glob I hg T.gC ?_ hdb)
  refine PySem.W.callWith_K (h₀ := X.base) I.ok.mod.kin T.kC (thn (ha.run pos pins s σ H _ I h) fun us s1 hh => ?_) he hpl
  obtain ⟨vs, H1, I1, r1, v, ev, q1⟩ := hh
  subst ev
  refine ⟨I1.kIn, ?_⟩
  cases r1 with
  | cons rv rn =>
    rename_i v' us'
    cases rn
    show wpAny _ _ (PySem.call (.ref C) [v']) _ _ _
    have hbk := I1.bk
    have hmod := I1.mod
    obtain ⟨hp, g, dr, tk, os⟩ := s1
    refine wpAny_call (Sup.sup_made T hmod hbk (by have := hr.dp; omega) fun h' tk' e d M => ?_)
    show MkP X pins σ Q (.ref e) ⟨h', g, dr, tk', os⟩
    obtain ⟨oe, fv, hoe, hc, hd, hdat, h1⟩ := M.obj
    have hns := M.ns
    obtain ⟨G', g1, g2⟩ := restrict h' fun b => decide (b ≠ e)
    have gk : ∀ b, b ≠ e → G'.get? b = h'.get? b := fun b hb => g1 b (decide_eq_true hb)
    have ge : G'.get? e = none := g2 e (by simp)
    have old : ∀ b o, hp.get? b = some o → G'.get? b = some o := fun b o q => (gk b (Nat.ne_of_lt (Nat.lt_of_lt_of_le (Heap.lt_size q) M.new))).trans (M.keep b o q)
    have ob : ObjOk X.prog X.w (upd H1 d (.xd [(f, v)])) G' d (.xd [(f, v)]) :=
      ⟨_, hns.at (fun o q => (gk d M.dne).trans q), fun g => relO_f rv g⟩
    have J : Inv X pins σ (upd H1 d (.xd [(f, v)])) ⟨G', g, dr, tk', os⟩ := I1.laid (t' := tk') old M.dbig ob
    refine ⟨e, oe, fv, ⟨G', g, dr, tk', os⟩, _, .ref C, some d, rfl, J, fun b o q => ?_, ge, hoe, ⟨hc, hd⟩, hdat, h1, ?_, rfl, I1.bare, raises_own T.exC T.tyC, q1 d (I1.hok.fresh M.dbig)⟩
    · by_cases hb : b = e
      · have q' : G'.get? b = some o := q
        rw [hb, ge] at q'; cases q'
      · exact (gk b hb).symm.trans q
    · rw [upd_ne (Ne.symm M.dne)]
      exact I1.hok.fresh M.new
end
end MP

set_option Elab.async false
set_option linter.all false
set_option maxRecDepth 100000
set_option maxHeartbeats 2000000
namespace MP
open PySem PySem.Spec PyProof.Rows L2
variable [Gb]

/-! ### the compiler -/
/-- an own exception class: its field, whether it may be raised, the own classes above it (itself too) -/
structure XRow where
  nm : Str
  f : Option Str
  rs : Bool
  up : List Str
structure CC where
  sc : Scope
  N : List Str
  /-- a def's own body (not a comprehension's block) -/
  top : Bool
  /-- the defs that may be called, with their parameters -/
  fs : List (Str × List Str)
  /-- names that are no module's names: built-ins -/
  fr : List Str
  /-- names of the module that hold built-ins -/
  lib : List (Str × String)
  /-- constants of the module -/
  cn : List (Str × D)
  /-- fields, methods; classes that may be called; the class whose method this is -/
  cf : List Str
  ms : List Str
  cls : List Str
  cl : Str
  /-- this def's table of code objects is known -/
  gen : Bool
  /-- the block's own cells -/
  oc : List Str
  /-- own exceptions -/
  xs : List XRow
def mapO {α β : Type} (f : α → Option β) : List α → Option (List β)
  | [] => some []
  | a :: as => match f a, mapO f as with
    | some b, some bs => some (b :: bs)
    | _, _ => none
def idx : List Str → Str → Option Nat
  | [], _ => none
  | y :: ys, x => if x = y then some 0 else (idx ys x).map (· + 1)
theorem idx_get : ∀ {ys : List Str} {x : Str} {i : Nat}, idx ys x = some i → ys[i]? = some x
  | [], _, _, h => by cases h
  | y :: ys, x, i, h => by
    unfold idx at h
    split at h
    · rename_i e
      cases h
      rw [e]; rfl
    · cases e : idx ys x with
      | none => rw [e] at h; cases h
      | some j =>
        rw [e] at h
        have z : j + 1 = i := Option.some.inj h
        subst z
        exact (idx_get e : ys[j]? = some x)
def notStar : Expr → Bool
  | .Starred _ _ => false
  | _ => true
theorem star_of {e : Expr} {es : List Expr} {env : PySem.Env} (h : notStar e = true) : starEach (e :: es) env = (false, eval e env) :: starEach es env := by
  cases e <;> first | rfl | cases h
theorem astar_of {e : Expr} {es : List Expr} {env : PySem.Env} (h : notStar e = true) : assignEach (e :: es) env = (false, assign e env) :: assignEach es env := by
  cases e <;> first | rfl | cases h
def plainName (x : Str) : Bool := !(x == ("__debug__" : Str)) && !(x == ("__classdict__" : Str))
theorem plainName_of {x : Str} (h : plainName x = true) : (x == ("__debug__" : Str)) = false ∧ (x == ("__classdict__" : Str)) = false := by
  obtain ⟨a, b⟩ := Bool.and_eq_true_iff.mp h
  exact ⟨by simpa using a, by simpa using b⟩
def visB (sc : Scope) (x : Str) : Bool := match sc.names.lookup x with
  | some .local => true
  | some .cell => true
  | some .free => true
  | _ => false
theorem visB_of {sc : Scope} {x : Str} (h : visB sc x = true) : Vis sc x := by
  unfold visB at h
  split at h
  · exact .inl (by assumption)
  · exact .inr (.inl (by assumption))
  · exact .inr (.inr (by assumption))
  · cases h
def gloB (sc : Scope) (x : Str) : Bool := match sc.names.lookup x with
  | some .globalImplicit => true
  | _ => false
theorem gloB_of {sc : Scope} {x : Str} (h : gloB sc x = true) : sc.names.lookup x = some .globalImplicit := by
  unfold gloB at h
  split at h
  · assumption
  · cases h
/-- a name that may be stored to -/
def stoB (c : CC) (x : Str) : Bool := match c.sc.names.lookup x with
  | some .local => true
  | some .cell => c.top || decide (x ∈ c.oc)
  | _ => false
def plainIxB : Expr → Bool
  | .Slice _ _ _ _ => false
  | _ => true
theorem plainIx_of {b : Expr} (h : plainIxB b = true) : PlainIx b := by
  cases b <;> first | (intro o i; rfl) | cases h
def truthB : Expr → Bool
  | .UnaryOp .Not _ _ => false
  | .BoolOp _ _ _ => false
  | .IfExp _ _ _ _ => false
  | .Compare _ _ _ _ => false
  | _ => true
theorem truth_of {a : Expr} {env : PySem.Env} (h : truthB a = true) : ∀ whole, isTrue a env whole = (do let v ← whole; standAt a.pos; holding [v] (truthy v)) := by
  intro whole
  cases a with
  | UnaryOp op b pos => cases op <;> first | rfl | cases h
  | BoolOp _ _ _ => cases h
  | IfExp _ _ _ _ => cases h
  | Compare _ _ _ _ => cases h
  | _ => rfl
def notSet : Expr → Bool
  | .Set _ _ _ => false
  | _ => true
theorem folded_of {e : Expr} {env : PySem.Env} (h : notSet e = true) : ∀ x, foldedSetIterable e env x = pure x := by
  intro x
  cases e <;> first | rfl | cases h
def notComp : Expr → Bool
  | .ListComp _ _ _ _ => false
  | .SetComp _ _ _ _ => false
  | .DictComp _ _ _ _ _ => false
  | _ => true
theorem swaps_of {e : Expr} {t : Option Expr} {l : Nat} {env : PySem.Env} (h : notComp e = true) : swapsWith e t l env = pure false := by
  cases e <;> first | rfl | cases h
/-- the walks with the name of a built-in -/
def biOf (x : Str) (n : Nat) : Option Bi :=
  if x = ("len" : Str) ∧ n = 1 then some .len else if x = ("abs" : Str) ∧ n = 1 then some .abs else if x = ("int" : Str) ∧ n = 1 then some .int else if x = ("tuple" : Str) ∧ n = 1 then some .tuple else
  if x = ("list" : Str) ∧ n = 1 then some .list else if x = ("str" : Str) ∧ n = 1 then some .str else if x = ("sorted" : Str) ∧ n = 1 then some .sorted else if x = ("sum" : Str) ∧ n = 1 then some .sum else if x = ("min" : Str) ∧ n = 2 then some .min else if x = ("max" : Str) ∧ n = 2 then some .max else none
def libOf (id : String) : Option Bi := if id = "math.gcd" then some .gcd else none
def mtOf (x : Str) (n : Nat) : Option Mt :=
  if x = ("append" : Str) ∧ n = 1 then some .append else if x = ("pop" : Str) ∧ n = 0 then some .pop else if x = ("reverse" : Str) ∧ n = 0 then some .reverse else if x = ("extend" : Str) ∧ n = 1 then some .extend else if x = ("pop" : Str) ∧ n = 1 then some .popAt else
  if x = ("startswith" : Str) ∧ n = 1 then some .startswith else if x = ("endswith" : Str) ∧ n = 1 then some .endswith else if x = ("lstrip" : Str) ∧ n = 1 then some .lstrip else
  if x = ("index" : Str) ∧ n = 1 then some .index else if x = ("find" : Str) ∧ n = 1 then some .find else if x = ("isdigit" : Str) ∧ n = 0 then some .isdigit else
  if x = ("split" : Str) ∧ n = 1 then some .split else if x = ("join" : Str) ∧ n = 1 then some .join else none
def tyOf (x : Str) : Option Ty :=
  if x = ("int" : Str) then some .int else if x = ("bool" : Str) then some .bool else if x = ("str" : Str) then some .str else if x = ("tuple" : Str) then some .tuple else if x = ("list" : Str) then some .list else none
def kwNames : List Keyword → Option (List Str) := mapO (·.arg)
mutual
def gsl : G → List Nat
  | .v i => [i]
  | .tup gs => gsls gs
def gsls : List G → List Nat
  | [] => []
  | g :: gs => gsl g ++ gsls gs
end
def cG : Nat → CC → Expr → Option G
  | 0, _, _ => none
  | n + 1, c, e => match e with
    | .Name x _ => if stoB c x = true then (idx c.N x).map .v else none
    | .Tuple es _ _ => (mapO (fun e => if notStar e = true then cG n c e else none) es).map .tup
    | _ => none
def recvB : Expr → Bool
  | .Name _ _ => true
  | .Subscript _ _ _ => true
  | .Attribute _ _ _ => true
  | .Constant _ _ _ => true
  | .BinOp _ _ _ _ => true
  | _ => false
theorem recv_of {o : Expr} {m : Str} {env : PySem.Env} (h : recvB o = true) : attributeBase o m env (eval o env) = eval o env := by
  cases o <;> first | rfl | cases h
/-- the names of a comprehension's block, with their places -/
def ownOf (N : List Str) (scope : Scope) : List (Str × Nat) := scope.names.filterMap fun y => match y.2 with
  | .local => (idx N y.1).map (y.1, ·)
  | .cell => (idx N y.1).map (y.1, ·)
  | _ => none
def CC.blk (c : CC) (scope : Scope) : CC := { c with sc := relS scope c.sc, top := false, gen := false, oc := (scope.names.map (·.1)).filter fun x => scope.names.lookup x == some .cell }
/-- within a generator expression -/
def CC.gx (c : CC) (scope : Scope) : CC := { c with sc := scope, top := false, gen := false, oc := [] }
/-- a generator expression's own scope in the scope sc -/
def genC (N : List Str) (sc scope : Scope) : Bool :=
  !scope.isCoroutine && decide (scope.names.lookup (".0" : Str) = some NameKind.local) && (scope.names.all fun y => decide (y.2 ≠ NameKind.cell)) && blkC N sc scope (ownOf N scope)
/-- the names of its block, as they stand in the def's slots -/
def genOwn (N : List Str) (scope : Scope) : List (Str × Nat) := ownOf N scope
def genIter : Expr → Bool
  | .List _ _ => false
  | .Set _ _ _ => false
  | _ => true
def agOf (x : Str) : Option Ag := if x = ("sum" : Str) then some .sum else if x = ("all" : Str) then some .all else if x = ("any" : Str) then some .any else none
def rngOf : Nat → Option IK
  | 1 => some .rng1
  | 2 => some .rng2
  | 3 => some .rng3
  | _ => none
def isTupE : Expr → Bool
  | .Tuple _ _ _ => true
  | _ => false
def subL (a b : List Nat) : Bool := a.all fun i => decide (i ∈ b)
/-- the classes that a clause of z takes -/
def xBelow (xs : List XRow) (z : Str) : List Str := (xs.filter fun r => r.rs && r.up.contains z).map (·.nm)
/-! what an except suite returns; nm the exception's name -/
mutual
def cHX : Nat → CC → Option Str → Expr → Option HX
  | 0, _, _, _ => none
  | n + 1, c, nm, e => match e with
    | .Constant (.int i) _ _ => some (.int i)
    | .Constant (.bool b) _ _ => some (.bl b)
    | .Constant .none _ _ => some .non
    | .Constant (.str s) _ _ => some (.str s)
    | .Attribute (.Name y _) f _ => if nm = some y ∧ visB c.sc y = true ∧ plainName y = true ∧ (c.xs.any fun r => decide (r.f = some f)) = true then some (.fld f) else none
    | .Call (.Name g _) [.Name y _, .Name z _] [] _ => if g = ("isinstance" : Str) ∧ nm = some y ∧ visB c.sc y = true ∧ plainName y = true ∧ (c.xs.any fun r => decide (r.nm = z)) = true ∧ gloB c.sc z = true ∧ plainName z = true ∧ gloB c.sc g = true ∧ c.fr.contains g = true then some (.isx (xBelow c.xs z)) else none
    | .IfExp t a b _ => (match cHT n c nm t, cHX n c nm a, cHX n c nm b with
      | some x, some y, some z => some (.ite x y z)
      | _, _, _ => none)
    | .Tuple es _ _ => if es.length ≤ 1000 then (cHXs n c nm es).map .tup else none
    | .BinOp a .Sub b _ => (match cHX n c nm a, cHX n c nm b with
      | some x, some y => some (.sub x y)
      | _, _ => none)
    | _ => none
def cHXs : Nat → CC → Option Str → List Expr → Option (List HX)
  | 0, _, _, _ => none
  | n + 1, c, nm, es => mapO (fun e => if notStar e = true then cHX n c nm e else none) es
def cHT : Nat → CC → Option Str → Expr → Option HX
  | 0, _, _, _ => none
  | n + 1, c, nm, e => match e with
    | .UnaryOp .Not a _ => (cHT n c nm a).map .not
    | .BoolOp .And [a, b] _ => (match cHT n c nm a, cHT n c nm b with
      | some x, some y => some (.and x y)
      | _, _ => none)
    | .Call f es ks p => cHX n c nm (.Call f es ks p)
    | _ => none
end
mutual
def cE : Nat → CC → Expr → Option T
  | 0, _, _ => none
  | n + 1, c, e => match e with
    | .Name x _ => if visB c.sc x = true ∧ plainName x = true then (idx c.N x).map .v else if gloB c.sc x = true ∧ plainName x = true then (c.cn.lookup x).map .lit else none
    | .Attribute o f _ => if recvB o = true ∧ f ∈ c.cf then (cE n c o).map fun x => .fld x f else none
    | .Subscript a (.Slice (some lo) none none _) _ => (match cE n c a, cE n c lo with
      | some x, some y => some (.slA x y)
      | _, _ => none)
    | .Subscript a (.Slice none (some hi) none _) _ => (match cE n c a, cE n c hi with
      | some x, some y => some (.slB x y)
      | _, _ => none)
    | .Subscript a (.Slice (some lo) (some hi) none _) _ => (match cE n c a, cE n c lo, cE n c hi with
      | some x, some y, some z => some (.slC x y z)
      | _, _, _ => none)
    | .Constant (.int i) _ _ => some (.int i)
    | .Constant (.bool b) _ _ => some (.bl b)
    | .Constant .none _ _ => some .non
    | .Constant (.str s) _ _ => some (.str s)
    | .BinOp a op b _ => (match cE n c a, cE n c b with
      | some x, some y => some (.bin op x y)
      | _, _ => none)
    | .UnaryOp .USub a _ => (cE n c a).map .neg
    | .UnaryOp .Not a _ => (cE n c a).map .not
    | .BoolOp op [a] _ => cE n c a
    | .BoolOp .And (a :: b :: r) p => (match cE n c a, cE n c (.BoolOp .And (b :: r) p) with
      | some x, some y => some (.and x y)
      | _, _ => none)
    | .BoolOp .Or (a :: b :: r) p => (match cE n c a, cE n c (.BoolOp .Or (b :: r) p) with
      | some x, some y => some (.or x y)
      | _, _ => none)
    | .Compare a [op] [b] _ => if behindInMarks op b = false then (match cE n c a, cE n c b with
      | some x, some y => some (.cmp op x y)
      | _, _ => none) else none
    | .Compare a [p, q] [b, d] _ => if lastMarks [p, q] [b, d] = false then (match cE n c a, cE n c b, cE n c d with
      | some x, some y, some z => some (.chain p q x y z)
      | _, _, _ => none) else none
    | .IfExp t a b _ => (match cT n c t, cE n c a, cE n c b with
      | some x, some y, some z => some (.ife x y z)
      | _, _, _ => none)
    | .Tuple es _ _ => if es.length ≤ 1000 then (cEs n c es).map .tup else none
    | .List es _ => if es.length ≤ 1000 then (cEs n c es).map .lst else none
    | .Subscript a b _ => if plainIxB b = true then (match cE n c a, cE n c b with
      | some x, some y => some (.ix x y)
      | _, _ => none) else none
    | .Call (.Name f _) [.Call (.Name g gp) as [] ap] [] _ => if f = ("list" : Str) ∧ g = ("range" : Str) ∧ gloB c.sc f = true ∧ gloB c.sc g = true ∧ c.fr.contains f = true ∧ c.fr.contains g = true ∧ as.isEmpty = false then (match cEs n c as, rngOf as.length with
      | some xs, some k => some (.lrg k xs)
      | _, _ => none) else cCall n c f [.Call (.Name g gp) as [] ap] []
    | .Call (.Name f _) es kws _ => cCall n c f es kws
    | .Call (.Attribute o m ap) es [] cp => if m ∈ c.ms then (if recvB o = true ∧ (ap.endLine == cp.line) = true ∧ es.length < 20 then (match cE n c o, cEs n c es with
      | some x, some ys => some (.meth x m ys)
      | _, _ => none) else none) else if recvB o = true ∧ (ap.endLine == cp.line) = true ∧ es.length < 20 then (match cE n c o, cEs n c es, mtOf m es.length with
      | some x, some ys, some mt => some (.mt mt x ys)
      | _, _, _ => none) else none
    | .Dict [] [] _ => some .dnew
    | .ListComp elt gens scope _ => cComp n c elt gens scope
    | _ => none
def cCall : Nat → CC → Str → List Expr → List Keyword → Option T
  | 0, _, _, _, _ => none
  | n + 1, c, f, es, kws => if gloB c.sc f = true ∧ plainName f = true then (match c.fs.lookup f with
    | some ps => (match kwNames kws, cEs n c es, cEs n c (kws.map (·.value)) with
      | some ks, some xs, some ys => if kws.isEmpty = true then (if okCall ps es.length [] (List.range ps.length) = true ∧ es.length = ps.length then some (.call f xs []) else none)
        else (if okCall ps es.length ks (ps.filterMap fun p => idx (ps.take es.length ++ ks) p) = true ∧ ps.isEmpty = false then some (.call f (xs ++ ys) (ps.filterMap fun p => idx (ps.take es.length ++ ks) p)) else none)
      | _, _, _ => none)
    | none => if kws.isEmpty = true then (if f ∈ c.cls then (match cEs n c es with
        | some xs => if es.isEmpty = false then some (.make f xs) else none
        | none => none)
      else match es with
      | [.GeneratorExp elt gens scope _] => (match agOf f with
        | some p => if c.fr.contains f = true ∧ c.gen = true then cGen n c p elt gens scope else none
        | none => none)
      | _ => if f = ("isinstance" : Str) then (match es with
          | [a, .Name t _] => if c.fr.contains f = true ∧ c.fr.contains t = true ∧ gloB c.sc t = true ∧ notStar a = true then (match cE n c a, tyOf t with
            | some x, some ty => some (.isi x ty)
            | _, _ => none) else none
          | _ => none)
        else (match cEs n c es with
          | some xs => if c.fr.contains f = true then (biOf f es.length).map fun b => .bi b xs else (match c.lib.lookup f with
            | some id => if es.length = 2 then (libOf id).map fun b => .bi b xs else none
            | none => none)
          | none => none)) else none) else none
def cEs : Nat → CC → List Expr → Option (List T)
  | 0, _, _ => none
  | n + 1, c, es => mapO (fun e => if notStar e = true then cE n c e else none) es
def cT : Nat → CC → Expr → Option T
  | 0, _, _ => none
  | n + 1, c, e => match e with
    | .UnaryOp .Not a _ => (cT n c a).map .not
    | .BoolOp _ _ _ => cW n c e
    | .Compare a [op] [b] _ => if behindInMarks op b = false then (match cE n c a, cE n c b with
      | some x, some y => some (.cmp op x y)
      | _, _ => none) else none
    | .Compare a [p, q] [b, d] _ => if lastMarks [p, q] [b, d] = false then (match cE n c a, cE n c b, cE n c d with
      | some x, some y, some z => some (.chain p q x y z)
      | _, _, _ => none) else none
    | e => if truthB e = true then (cE n c e).map .tru else none
def cW : Nat → CC → Expr → Option T
  | 0, _, _ => none
  | n + 1, c, e => match e with
    | .BoolOp op [a] _ => cT n c a
    | .BoolOp .And (a :: b :: r) p => (match cT n c a, cW n c (.BoolOp .And (b :: r) p) with
      | some x, some y => some (.and x y)
      | _, _ => none)
    | .BoolOp .Or (a :: b :: r) p => (match cT n c a, cW n c (.BoolOp .Or (b :: r) p) with
      | some x, some y => some (.or x y)
      | _, _ => none)
    | _ => none
def cI : Nat → CC → Expr → Expr → Option (IK × List T)
  | 0, _, _, _ => none
  | n + 1, c, tg, e => match e with
    | .Call (.Name f _) [a] [] _ => if f = ("range" : Str) then (if gloB c.sc f = true ∧ c.fr.contains f = true ∧ notStar a = true then (cE n c a).map fun x => (.rng1, [x]) else none)
      else if f = ("enumerate" : Str) then (if gloB c.sc f = true ∧ c.fr.contains f = true ∧ notStar a = true ∧ isTupE tg = true then (cE n c a).map fun x => (.enum, [x]) else none)
      else if f = ("reversed" : Str) then (if gloB c.sc f = true ∧ c.fr.contains f = true ∧ notStar a = true then (cE n c a).map fun x => (.rev, [x]) else none)
      else (cE n c e).map fun x => (.seq, [x])
    | .Call (.Name f _) [a, b] [] _ => if f = ("range" : Str) then (if gloB c.sc f = true ∧ c.fr.contains f = true ∧ notStar a = true ∧ notStar b = true then (match cE n c a, cE n c b with
      | some x, some y => some (.rng2, [x, y])
      | _, _ => none) else none)
      else if f = ("zip" : Str) then (if gloB c.sc f = true ∧ c.fr.contains f = true ∧ notStar a = true ∧ notStar b = true ∧ isTupE tg = true then (match cE n c a, cE n c b with
      | some x, some y => some (.zip, [x, y])
      | _, _ => none) else none)
      else (cE n c e).map fun x => (.seq, [x])
    | .Call (.Name f _) [a, b, d] [] _ => if f = ("range" : Str) then (if gloB c.sc f = true ∧ c.fr.contains f = true ∧ notStar a = true ∧ notStar b = true ∧ notStar d = true then (match cE n c a, cE n c b, cE n c d with
      | some x, some y, some z => some (.rng3, [x, y, z])
      | _, _, _ => none) else none)
      else (cE n c e).map fun x => (.seq, [x])
    | e => if notSet e = true then (cE n c e).map fun x => (.seq, [x]) else none
def cC : Nat → CC → List Expr → Option (List T)
  | 0, _, _ => none
  | n + 1, c, es => match es with
    | [] => some []
    | [e] => (cT n c e).map fun x => [x]
    | _ => none
def cComp : Nat → CC → Expr → List Comprehension → Scope → Option T
  | 0, _, _, _, _ => none
  | n + 1, c, elt, gens, scope => if blkC c.N c.sc scope (ownOf c.N scope) = true then (match gens with
    | [⟨tg, it, ifs, 0⟩] => (match cI n c tg it, cG n (c.blk scope) tg, cC n (c.blk scope) ifs, cE n (c.blk scope) elt with
      | some (k, ts), some g, some cs, some x => if subL (gsl g) ((ownOf c.N scope).map (·.2)) = true then some (.comp x g k ts cs ((ownOf c.N scope).map (·.2))) else none
      | _, _, _, _ => none)
    | [⟨tg, it, ifs, 0⟩, ⟨tg1, it1, ifs1, 0⟩] => (match cI n c tg it, cG n (c.blk scope) tg, cC n (c.blk scope) ifs, cE n (c.blk scope) elt, cI n (c.blk scope) tg1 it1, cG n (c.blk scope) tg1, cC n (c.blk scope) ifs1 with
      | some (k, ts), some g, some cs, some x, some (k1, ts1), some g1, some cs1 => if subL (gsl g) ((ownOf c.N scope).map (·.2)) = true ∧ subL (gsl g1) ((ownOf c.N scope).map (·.2)) = true then some (.comp2 x g k ts cs g1 k1 ts1 cs1 ((ownOf c.N scope).map (·.2)) (gsl g1)) else none
      | _, _, _, _, _, _, _ => none)
    | _ => none) else none
def cGen : Nat → CC → Ag → Expr → List Comprehension → Scope → Option T
  | 0, _, _, _, _, _ => none
  | n + 1, c, p, elt, gens, scope => if genC c.N c.sc scope = true then (match gens with
    | [⟨tg, it, [], 0⟩] => (match cI n c tg it, cG n (c.gx scope) tg, cE n (c.gx scope) elt with
      | some (k, ts), some g, some x => if subL (gsl g) ((ownOf c.N scope).map (·.2)) = true ∧ genIter it = true then some (.agg p x g k ts ((ownOf c.N scope).map (·.2))) else none
      | _, _, _ => none)
    | _ => none) else none
end
end MP

set_option Elab.async false
set_option linter.all false
set_option maxRecDepth 100000
set_option maxHeartbeats 4000000
namespace MP
open PySem PySem.Spec PyProof.Rows L2
variable [Gb]

/-- what must be known of the own exceptions -/
structure XOk (xs : List XRow) (P : Program) (K : PySem.W.Frag) (mg : Str → Option Value) : Prop where
  gl : ∀ r ∈ xs, mg r.nm = some (.ref (He.ga K r.nm))
  sup : ∀ r ∈ xs, ∀ f, r.f = some f → r.rs = true → r.nm ∈ Gb.xk ∧ ∃ fI, Sup.SupTxt P K mg (He.ga K r.nm) fI r.nm f
  all : ∀ y ∈ Gb.xk, ∃ r ∈ xs, r.nm = y ∧ r.rs = true
  ga : ∀ r ∈ xs, r.rs = true → XfC K (He.ga K r.nm)
  cls : ∀ r ∈ xs, r.rs = true → PySem.W.findIn K (.ref (He.ga K r.nm)) "__class__" = some (some (.builtin "object.__class__")) ∧ PySem.W.specialIn K (.builtin "object.__class__") "__get__" = some (some (.builtin "getset_descriptor.__get__")) ∧
    PySem.W.takesIn K (.builtin "object.__class__") = some true ∧ PySem.W.mroIn K (He.ga K r.nm) (.type "object") = some true ∧ (PySem.W.clsIn K (He.ga K r.nm)).isSome = true
  no : ∀ r ∈ xs, r.rs = true → ∀ q ∈ xs, ∀ g, q.f = some g → PySem.W.findIn K (.ref (He.ga K r.nm)) g = some none
  sub : ∀ r ∈ xs, r.rs = true → ∀ q ∈ xs, PySem.W.exmOne K (.ref (He.ga K r.nm)) (.ref (He.ga K q.nm)) = some (r.up.contains q.nm) ∧ PySem.W.kitOne K (.ref (He.ga K r.nm)) (.ref (He.ga K q.nm)) = some (r.up.contains q.nm)
/-- what is known where a def's body (or a comprehension's block) runs -/
structure Okc (k : Nat) (c : CC) (C : CalT) (E : L2.St → XK) (X : Cx) : Prop where
  calm : X.calm = true
  N : X.N = c.N
  nd : c.N.Nodup
  sc : X.env.scope = c.sc
  kind : c.sc.kind = .function
  top : c.top = true → ∀ x, X.fn x = true
  units : X.A.units + 64 < cLine
  po : PassesOwn (model X.prog X.w) X.A X.env X.xe
  room : Room (k + 1) X.A
  room2 : c.gen = true → Room (k + 2) X.A
  tk : Takes X fun cls d σ H => E σ cls d H
  cal : ∀ f ps, c.fs.lookup f = some ps → ∃ a fd, X.mg f = some (.ref a) ∧ PySem.W.keepIn X.K (.ref a) = true ∧ Plain fd ps ∧ FnOk X.prog X.w X.K X.mg X.base (L2.CX X.prog X.w) k a fd ps (spC X.K (C f) ps.length)
  meth : ∀ cl m, cl ∈ Gb.cls → m ∈ c.ms → ∀ ds st, C (mkey cl m) ds st ≠ none → ∃ a fd ps, Meth X.K (He.ga X.K cl) m a ∧ Plain fd ps ∧ FnOk X.prog X.w X.K X.mg X.base (L2.CX X.prog X.w) k a fd ps (spC X.K (C (mkey cl m)) ps.length) ∧ ds.length = ps.length ∧ okCall ps ps.length [] (List.range ps.length) = true
  mak : ∀ x ∈ c.cls, x ∈ Gb.cls ∧ X.mg x = some (.ref (He.ga X.K x)) ∧ Cls X.K (He.ga X.K x) ∧ ∃ a fd ps, Mk X.K (He.ga X.K x) a ∧ Plain fd ps ∧ FnOk X.prog X.w X.K X.mg X.base (L2.CX X.prog X.w) k a fd ps (spC X.K (C (mkey x "__init__")) ps.length) ∧ okCall ps ps.length [] (List.range ps.length) = true ∧ ∀ ds st, C (mkey x "__init__") ds st ≠ none → ds.length = ps.length
  free : ∀ x ∈ c.fr, X.mg x = none
  lib : ∀ x id, c.lib.lookup x = some id → X.mg x = some (.builtin id)
  con : ∀ x d, c.cn.lookup x = some d → ∃ u v, X.mg x = some u ∧ RelV v u ∧ ∀ H μ, RD X.K H μ d v
  own : ∀ x ∈ c.oc, X.fn x = true
  fld : ∀ cl f, cl ∈ Gb.cls → f ∈ c.cf → NoAttr X.K (He.ga X.K cl) f
  stk : c.top = true → X.stack = X.env :: X.outer ∧ X.env.frame = some X.env.locals
  exc : c.top = true → XOk c.xs X.prog X.K X.mg
  tab : c.gen = true → ∃ c0 P, GxR.TabB X.base X.mg c0 P ∧ X.env.code = .ref c0 ∧ P ∈ Gb.ts
section
variable {k : Nat} {c : CC} {C : CalT} {E : L2.St → XK} {X : Cx}
theorem Okc.nd' (o : Okc k c C E X) : X.N.Nodup := by rw [o.N]; exact o.nd
theorem Okc.ix (o : Okc k c C E X) {x : Str} {i : Nat} (h : idx c.N x = some i) : X.N[i]? = some x := by rw [o.N]; exact idx_get h
theorem Okc.glo (o : Okc k c C E X) {x : Str} (h : gloB c.sc x = true) : Gl X x := by
  show X.env.scope.names.lookup x = _
  rw [o.sc]; exact gloB_of h
theorem Okc.vis (o : Okc k c C E X) {x : Str} (h : visB c.sc x = true) : Vis X.env.scope x := by rw [o.sc]; exact visB_of h
theorem Okc.sto (o : Okc k c C E X) {x : Str} (h : stoB c x = true) : Loc X.env.scope x ∧ (X.fn x = true ∨ X.env.scope.names.lookup x = some .local) := by
  rw [o.sc]
  unfold stoB at h
  split at h
  · rename_i e; exact ⟨.inl e, .inr e⟩
  · rename_i e
    rcases Bool.or_eq_true_iff.mp h with h | h
    · exact ⟨.inr e, .inl (o.top h x)⟩
    · exact ⟨.inr e, .inl (o.own x (of_decide_eq_true h))⟩
  · cases h
theorem takes_no {X : Cx} (h : X.xe = fun _ _ => False) : Takes X fun cls d σ H => kE E0 σ cls d H := fun u s' ⟨_, _, _, _, _, _, _, _, _, _, _, _, _, _, _, _, w⟩ => w.elim
theorem Okc.blk (o : Okc k c C E X) {s : Shared} {H : Hp} {scope : Scope} {cl : List (Str × Addr)} {Ca : Addr} {fp : List Addr} (hk : scope.kind = .function) : Okc k (c.blk scope) C (kE E0) (X.blk s H scope (compEnvC scope cl Ca X.env) fp) where
  calm := o.calm
  N := o.N
  nd := o.nd
  sc := by
    show relabel scope X.env = relS scope c.sc
    rw [← o.sc]; rfl
  kind := hk
  top := fun z => by cases z
  units := o.units
  po := PassesOwn.never
  room := o.room
  room2 := fun z => by cases z
  tk := takes_no rfl
  cal := o.cal
  meth := o.meth
  mak := o.mak
  free := o.free
  lib := o.lib
  con := o.con
  own := fun x hx => (List.mem_filter.mp hx).2
  fld := o.fld
  stk := fun z => by cases z
  exc := fun z => by cases z
  tab := fun z => by cases z
/-- what a callee lets out is taken -/
theorem Okc.pass (o : Okc k c C E X) {pins : List (Addr × Obj)} {σ : L2.St} {H : Hp} {s s' : Shared} {e : Value} (I : Inv X pins σ H s) (h : L2.CX X.prog X.w X.stack H s (E σ) e s') : X.xe e s' :=
  o.tk _ _ (XE.of_call (W := fun cls d σ H => E σ cls d H) I (fun _ _ _ q => q) h)

/-! ### own calls -/
theorem range_pmV : ∀ (vs : List V), pmV (List.range vs.length) vs = vs := fun vs => by
  unfold pmV
  refine List.ext_getElem (by simp) fun i h1 h2 => ?_
  rw [List.getElem_map, List.getElem_range, List.getD_eq_getElem?_getD, List.getElem?_eq_getElem h2]
  rfl
theorem perm_rd {K : PySem.W.Frag} {H : Hp} {μ : List Addr} {ds : List D} {vs : List V} (r : RDs K H μ ds vs) : ∀ pm : List Nat, RDs K H μ (pm.map fun i => ds.getD i .non) (pmV pm vs)
  | [] => rfl
  | i :: pm => by
    refine ⟨vs.getD i .non, pmV pm vs, rfl, ?_, perm_rd r pm⟩
    show RD K H μ (ds.getD i .non) (vs.getD i .non)
    rw [List.getD_eq_getElem?_getD, List.getD_eq_getElem?_getD]
    by_cases h : i < ds.length
    · obtain ⟨v, e, q⟩ := r.get (List.getElem?_eq_getElem h)
      rw [e, List.getElem?_eq_getElem h]
      exact q
    · rw [List.getElem?_eq_none (by omega), List.getElem?_eq_none (by rw [r.length]; omega)]
      exact rfl
variable {ms ms2 : Env → Sto → R (List D)} {Cf : List D → Sto → R D}
/-- the reading of an own call -/
theorem own_of {K : PySem.W.Frag} {E : L2.St → XK} {σ : L2.St} {H : Hp} {Q : VK} {pm : List Nat} {np n1 n2 : Nat} (hp : pm.length = np) (hla : ∀ σ st ds st', ms σ st = some (.ok ds, st') → ds.length = n1) (hlb : ∀ σ st ds st', ms2 σ st = some (.ok ds, st') → ds.length = n2) (h : rdE K E (fun σ st => bnd (bnd (ms σ st) fun a st => bnd (ms2 σ st) fun b st => ok (a ++ b) st) fun ds st => Cf (pm.map fun i => ds.getD i .non) st) σ H Q) :
    rdA K E ms σ H fun vs H1 => vs.length = n1 ∧ rdA K E ms2 σ H1 fun zs H2 => zs.length = n2 ∧ spC K Cf np (pmV pm (vs ++ zs)) H2 Q (E σ) := by
  obtain ⟨μ, env, st, hs, he, h⟩ := h
  dsimp only at h
  rw [bnd_assoc] at h
  refine ⟨μ, env, st, hs, he, h.bnd.eq.imp fun ds st1 μ1 H1 x1 hs1 ⟨e1, h1⟩ vs rs => ?_⟩
  rw [bnd_assoc] at h1
  refine ⟨by rw [rs.length]; exact hla _ _ _ _ e1, μ1, env, st1, hs1, he.mono x1, h1.bnd.eq.imp fun ds2 st2 μ2 H2 x2 hs2 ⟨e2, h2⟩ zs rz => ?_⟩
  refine ⟨by rw [rz.length]; exact hlb _ _ _ _ e2, by unfold pmV; rw [List.length_map, hp], μ2, st2, _, hs2, perm_rd ((rs.mono x2.mono x2.pre).append rz) pm, h2⟩
theorem run_own (o : Okc k c C E X) {f : Addr} {fd : FuncData} {ps ks : List Str} {pm : List Nat} {pins : List (Addr × Obj)} {σ : L2.St} {H : Hp} {s : Shared} {Q : VK} {us ws : List Value} {vs zs : List V} (P : Plain fd ps) (F : FnOk X.prog X.w X.K X.mg X.base (L2.CX X.prog X.w) k f fd ps (spC X.K Cf ps.length))
    (hc : okCall ps us.length ks pm = true) (hl : ks.length = ws.length) (I : Inv X pins σ H s) (r : Vals vs us) (rz : Vals zs ws) (h : spC X.K Cf ps.length (pmV pm (vs ++ zs)) H Q (E σ)) : wpAny (model X.prog X.w) X.A (PySem.call (.ref f) us (ks.zip ws)) (EP X pins σ Q) X.xe s := by
  refine wpAny_call (codeAny_mono (F.run X.A X.stack s H ⟨us, ks.zip ws⟩ (pmU pm (us ++ ws)) (pmV pm (vs ++ zs)) Q (E σ) (o.room.mono (Nat.le_succ k)) I.env0 (P.binds hc hl s) (pm_vals (r.append rz) pm) h) fun r s' hq => ?_)
  cases r with
  | error e => exact o.pass I hq
  | ok fl =>
    cases fl with
    | ret u => exact I.after hq
    | next => exact False.elim hq
    | brk => exact False.elim hq
    | cont => exact False.elim hq
theorem kwEach : ∀ {kws : List Keyword} {ks : List Str} {pos : Pos} {env : PySem.Env}, kwNames kws = some ks → (backToKw pos (keywordEach kws env)).all (·.1.isSome) = true ∧ (backToKw pos (keywordEach kws env)).filterMap (·.1) = ks ∧ (backToKw pos (keywordEach kws env)).any (·.1.isNone) = false
  | [], ks, _, _, h => by cases h; exact ⟨rfl, rfl, rfl⟩
  | kw :: kws, ks, pos, env, h => by
    unfold kwNames mapO at h
    obtain ⟨nm, v, p⟩ := kw
    cases nm with
    | none => cases h
    | some k =>
      dsimp only at h
      cases e : mapO (fun x => x.arg) kws with
      | none => rw [e] at h; cases h
      | some ks' =>
        rw [e] at h
        cases h
        obtain ⟨a, b, d⟩ := kwEach (kws := kws) (pos := pos) (env := env) e
        refine ⟨?_, ?_, ?_⟩
        · show (true && _) = true; rw [Bool.true_and]; exact a
        · show k :: _ = k :: ks'; exact congrArg (k :: ·) b
        · show (false || _) = false; rw [Bool.false_or]; exact d

theorem kwlen : ∀ {kws : List Keyword} {ks : List Str}, kwNames kws = some ks → ks.length = kws.length
  | [], ks, h => by cases h; rfl
  | kw :: kws, ks, h => by
    unfold kwNames mapO at h
    split at h
    · rename_i b bs e1 e2
      cases h
      rw [List.length_cons, List.length_cons, kwlen (kws := kws) e2]
    · cases h
theorem plain_star : ∀ {es : List Expr} {pos : Pos} {env : PySem.Env}, es.all notStar = true → (backTo pos (starEach es env)).any (·.1) = false
  | [], _, _, _ => rfl
  | e :: es, pos, env, h => by
    obtain ⟨h1, h2⟩ := Bool.and_eq_true_iff.mp (show (notStar e && es.all notStar) = true from h)
    rw [star_of h1]
    show (false || _) = false
    rw [Bool.false_or]
    exact plain_star h2
/-- an own call, every form -/
theorem sE_own (o : Okc k c C E X) {f : Addr} {fd : FuncData} {x : Str} {p pos : Pos} {ps ks : List Str} {pm : List Nat} {es : List Expr} {kws : List Keyword} (P : Plain fd ps) (F : FnOk X.prog X.w X.K X.mg X.base (L2.CX X.prog X.w) k f fd ps (spC X.K Cf ps.length))
    (hg : Gl X x) (hm : X.mg x = some (.ref f)) (hk : PySem.W.keepIn X.K (.ref f) = true) (hdb : (x == ("__debug__" : Str)) = false) (hkn : kwNames kws = some ks) (hst : es.all notStar = true) (hc : okCall ps es.length ks pm = true) (hpm : pm.length = ps.length)
    (ha : PA X es (rdA X.K E ms)) (hb : PK X kws (rdA X.K E ms2)) (hla : ∀ σ st ds st', ms σ st = some (.ok ds, st') → ds.length = es.length) (hlb : ∀ σ st ds st', ms2 σ st = some (.ok ds, st') → ds.length = kws.length) (hne : es = [] → ms = fun _ st => ok [] st) (hnk : kws = [] → ms2 = fun _ st => ok [] st) :
    PE X (.Call (.Name x p) es kws pos) (rdE X.K E fun σ st => bnd (bnd (ms σ st) fun a st => bnd (ms2 σ st) fun b st => ok (a ++ b) st) fun ds st => Cf (pm.map fun i => ds.getD i .non) st) := by
  refine ⟨fun pins s σ H Q I h => ?_⟩
  have h := own_of hpm hla hlb h
  obtain ⟨k1, k2, k3⟩ := kwEach (pos := pos) (env := X.env) hkn
  refine wpAny_Call_Name_kw (ld_glob I hg hm ?_ hdb)
  have nil : ∀ {m : Env → Sto → R (List D)} {H : Hp} {k : List V → Hp → Prop}, m = (fun _ st => ok [] st) → rdA X.K E m σ H k → k [] H := fun {m H k} e h => by
    obtain ⟨μ, env, st, hs, he, h⟩ := h
    subst e
    exact h.ok (Ext.refl _ _) hs [] rfl
  cases kws with
  | nil =>
    have hks : ks = [] := by cases hkn; rfl
    subst hks
    cases es with
    | nil =>
      obtain ⟨_, h2⟩ := nil (hne rfl) h
      obtain ⟨_, h3⟩ := nil (hnk rfl) h2
      exact PySem.W.callWith_K0 I.kIn hk (run_own (us := []) (ws := []) (vs := []) (zs := []) o P F hc rfl I .nil .nil h3)
    | cons e es =>
      obtain ⟨st1, st2⟩ := Bool.and_eq_true_iff.mp (show (notStar e && es.all notStar) = true from hst)
      refine PySem.W.callWith_K (h₀ := X.base) I.ok.mod.kin hk (thn (ha.run pos pins s σ H _ I h) fun us s1 ⟨vs, H1, I1, r, hl, q⟩ => ⟨I1.kIn, ?_⟩) (star_of st1) (plain_star st2)
      obtain ⟨_, q3⟩ := nil (hnk rfl) q
      exact run_own (us := us) (ws := []) (zs := []) o P F (by rw [← r.length, hl]; exact hc) rfl I1 r .nil q3
  | cons kw kws =>
    cases es with
    | nil =>
      obtain ⟨_, h2⟩ := nil (hne rfl) h
      refine PySem.W.callWith_KW0 (h₀ := X.base) I.ok.mod.kin hk k1 (thn (hb.run pos pins s σ H _ I h2) fun ws s2 ⟨zs, H2, I2, rz, hz, q2⟩ => ⟨I2.kIn, ?_⟩) (by rw [k3]; rfl)
      rw [k2]
      exact run_own (us := []) (vs := []) o P F hc (by rw [← rz.length, hz, ← kwlen hkn]) I2 .nil rz q2
    | cons e es =>
      obtain ⟨st1, st2⟩ := Bool.and_eq_true_iff.mp (show (notStar e && es.all notStar) = true from hst)
      refine PySem.W.callWith_KW (h₀ := X.base) I.ok.mod.kin hk k1 (thn (ha.run pos pins s σ H _ I h) fun us s1 ⟨vs, H1, I1, r, hl, q⟩ => ?_) (by rw [k3, plain_star (es := e :: es) hst]; rfl) (star_of st1)
      refine thn (hb.run pos pins s1 σ H1 _ I1 q) fun ws s2 ⟨zs, H2, I2, rz, hz, q2⟩ => ⟨I2.kIn, ?_⟩
      rw [k2]
      exact run_own (us := us) o P F (by rw [← r.length, hl]; exact hc) (by rw [← rz.length, hz, ← kwlen hkn]) I2 r rz q2

/-! ### methods, instances -/
theorem ins_of {K : PySem.W.Frag} {F : XK} {α : Type} {μ : List Addr} {H : Hp} {st : Sto} {x : D} {v : V} {f : Nat → Str → List (Str × D) → R α} {kk : α → Sto → List Addr → Hp → Prop} (hs : RSt K H μ st) (r : RD K H μ x v) (h : Aft K F μ H (insOp x st f) kk) :
    ∃ n cl fs a dx vs, x = .loc n ∧ st[n]? = some (.ins cl fs) ∧ v = .ref a ∧ μ[n]? = some a ∧ H a = some (.ins (He.ga K cl) dx vs) ∧ RFs K H μ fs vs ∧ Cls K (He.ga K cl) ∧ (∀ p ∈ fs, NoAttr K (He.ga K cl) p.1) ∧ cl ∈ Gb.cls ∧ Aft K F μ H (f n cl fs) kk := by
  unfold insOp at h
  split at h
  · split at h
    · rename_i e
      obtain ⟨a, rfl, ha⟩ := r
      obtain ⟨a', ha', dx, vs, h1, h2, h3, h4, h5⟩ := hs.get e
      rw [ha] at ha'; cases ha'
      exact ⟨_, _, _, a, dx, vs, rfl, e, rfl, ha, h1, h2, h3, h4, h5, h⟩
    · exact h.none.elim
  · exact h.none.elim
theorem few_of' {es : List Expr} {pos : Pos} {env : PySem.Env} (h : es.all notStar = true) (hl : es.length < 20) : methodCallForm (es.length + ([] : List Keyword).length) (backTo pos (starEach es env)) (backToKw pos (keywordEach [] env)) = true := by
  unfold methodCallForm
  have h1 : (backTo pos (starEach es env)).all (fun x => !x.1) = true := by
    clear hl
    induction es with
    | nil => rfl
    | cons e es ih =>
      obtain ⟨h1, h2⟩ := Bool.and_eq_true_iff.mp (show (notStar e && es.all notStar) = true from h)
      rw [star_of h1]
      show (true && _) = true
      rw [Bool.true_and]
      exact ih h2
  have h2 : decide (es.length + ([] : List Keyword).length + (if (backToKw pos (keywordEach [] env)).isEmpty then 0 else 1) < 30) = true := decide_eq_true (by
    show es.length + 0 + 0 < 30
    omega)
  rw [h1, h2]
  rfl
/-- o.m(e, ..), the class known at the run -/
theorem sE_meth (o : Okc k c C E X) {oe : Expr} {m : Str} {ap cp : Pos} {es : List Expr} {mo : Env → Sto → R D} (hm : m ∈ c.ms) (hr : recvB oe = true) (hline : (ap.endLine == cp.line) = true) (hn : es.length < 20) (hst : es.all notStar = true)
    (ho : PE X oe (rdE X.K E mo)) (ha : PA X es (rdA X.K E ms)) (hne : es = [] → ms = fun _ st => ok [] st) :
    PE X (.Call (.Attribute oe m ap) es [] cp) (rdE X.K E fun σ st => bnd (mo σ st) fun x st => insOp x st fun _ cl fs => if fs.lookup m = none then bnd (noX (ms σ st)) fun ds st => C (mkey cl m) (x :: ds) st else none) := by
  refine ⟨fun pins s σ H Q I h => ?_⟩
  obtain ⟨μ, env, st, hs, he, h⟩ := h
  refine methcall_of (te := rdE X.K E mo) (pl := plainOf oe X.env) ho I ⟨μ, env, st, hs, he, h.bnd.imp fun d st1 μ1 H1 x1 hs1 h1 v rv => ?_⟩ (mcall_of (recv_of hr) fun ov => mcall_line (few_of' hst hn) hline)
  obtain ⟨n, cl, fs, a, dx, vs, rfl, e1, rfl, ha1, hH, rf, hcl, hna, hgb, h2⟩ := ins_of hs1 rv h1
  obtain ⟨hl, h3⟩ := h2.ite
  have he1 := he.mono x1
  obtain ⟨ds, st2, e2, hC⟩ : ∃ ds st2, ms env st1 = some (.ok ds, st2) ∧ C (mkey cl m) (.loc n :: ds) st2 ≠ none := by
    obtain ⟨y, s', e, _⟩ := h3
    cases q : ms env st1 with
    | none => rw [q] at e; cases e
    | some p =>
      obtain ⟨y2, s2⟩ := p
      rw [q] at e
      cases y2 with
      | error er => cases e
      | ok ds =>
        refine ⟨ds, s2, rfl, fun z => ?_⟩
        have e : C (mkey cl m) (.loc n :: ds) s2 = some (y, s') := e
        rw [z] at e; cases e
  obtain ⟨f, fd, ps, M, P, F, hlen, hok⟩ := o.meth cl m hgb hm _ _ hC
  refine ⟨a, _, dx, vs, f, rfl, hH, hcl, M, rf.none hl, fun s1 I1 => ?_⟩
  have hd : ds.length + 1 = ps.length := hlen
  rw [e2, noX_ok, bnd_ok] at h3
  cases es with
  | nil =>
    have e3 : ms = fun _ st => ok [] st := hne rfl
    rw [e3] at e2
    cases e2
    refine PySem.W.callWith_K0 (first := [.ref a]) I1.kIn M.kp (run_own (us := [.ref a]) (ws := []) (vs := [.ref a]) (zs := []) (ks := []) (pm := List.range ps.length) (Cf := C (mkey cl m)) o P F ?_ rfl I1 (.cons rfl .nil) .nil ?_)
    · show okCall ps 1 [] _ = true
      rw [show 1 = ps.length by simpa using hd]; exact hok
    · refine ⟨by unfold pmV; rw [List.length_map, List.length_range], μ1, st1, [.loc n], hs1, ?_, h3⟩
      rw [show ps.length = ([V.ref a] ++ ([] : List V)).length by simpa using hd.symm, range_pmV]
      exact ⟨.ref a, [], rfl, ⟨a, rfl, ha1⟩, rfl⟩
  | cons e es =>
    obtain ⟨st1', st2'⟩ := Bool.and_eq_true_iff.mp (show (notStar e && es.all notStar) = true from hst)
    refine PySem.W.callWith_K (first := [.ref a]) (h₀ := X.base) I1.ok.mod.kin M.kp (thn (ha.run cp pins s1 σ H1 _ I1 (show rdA X.K E ms σ H1 fun vs2 H2 => vs2.length = ds.length ∧ ∃ μ2, RSt X.K H2 μ2 st2 ∧ RDs X.K H2 μ2 ds vs2 ∧ Ext μ1 H1 μ2 H2 from ⟨μ1, env, st1, hs1, he1, .ok ds, st2, e2, fun μ2 H2 x2 hs2 vs2 rs => ⟨rs.length, μ2, hs2, rs, x2⟩⟩)) fun us s2 ⟨vs2, H2, I2, r, q0, μ2, hs2, rs, x2⟩ => ⟨I2.kIn, ?_⟩) (star_of st1') (plain_star st2')
    refine run_own (us := .ref a :: us) (ws := []) (vs := .ref a :: vs2) (zs := []) (ks := []) (pm := List.range ps.length) (Cf := C (mkey cl m)) o P F ?_ rfl I2 (.cons rfl r) .nil ?_
    · rw [show (Value.ref a :: us).length = ps.length by rw [List.length_cons, ← r.length, q0]; exact hd]; exact hok
    · refine ⟨by unfold pmV; rw [List.length_map, List.length_range], μ2, st2, .loc n :: ds, hs2, ?_, h3.at x2⟩
      rw [show ps.length = (V.ref a :: vs2 ++ ([] : List V)).length by rw [List.append_nil, List.length_cons, q0]; exact hd.symm, range_pmV, List.append_nil]
      exact ⟨.ref a, vs2, rfl, ⟨a, rfl, pre_get x2.pre ha1⟩, rs⟩

/-- C(..): a new instance, then __init__ -/
theorem run_make' (o : Okc k c C E X) {Cl f : Addr} {fd : FuncData} {ps : List Str} {pins : List (Addr × Obj)} {σ : L2.St} {H : Hp} {s : Shared} {Q : VK} {us : List Value} {vs : List V} (M : Mk X.K Cl f) (P : Plain fd ps) (F : FnOk X.prog X.w X.K X.mg X.base (L2.CX X.prog X.w) k f fd ps (spC X.K Cf ps.length))
    (hok : okCall ps ps.length [] (List.range ps.length) = true) (I : Inv X pins σ H s) (r : Vals vs us)
    (h : ∀ x dx, H x = none → H dx = none → dx ≠ x → spC X.K Cf ps.length (.ref x :: vs) (upd (upd H dx (.own x)) x (.ins Cl dx [])) (fun v H2 => v = .non ∧ Q (.ref x) H2) (E σ)) :
    wpAny (model X.prog X.w) X.A (PySem.call (.ref Cl) us) (EP X pins σ Q) X.xe s := by
  have hq := h (s.heap.objs.size + 1) s.heap.objs.size (I.hok.fresh (Nat.le_succ _)) (I.hok.fresh (Nat.le_refl _)) (Nat.ne_of_lt (Nat.lt_succ_self _))
  have I2 := Inv.made (C := Cl) I
  have r2 : Vals (V.ref (s.heap.objs.size + 1) :: vs) (Value.ref (s.heap.objs.size + 1) :: us) := .cons rfl r
  have hl : (Value.ref (s.heap.objs.size + 1) :: us).length = ps.length := by rw [← r2.length]; exact hq.1
  have hb := P.binds (us := Value.ref (s.heap.objs.size + 1) :: us) (ws := []) (ks := []) (pm := List.range ps.length) (by rw [hl]; exact hok) rfl { s with heap := (s.heap.push PySem.W.emptyDict).push (PySem.W.instObj Cl s.heap.objs.size) }
  have e : pmU (List.range ps.length) ((Value.ref (s.heap.objs.size + 1) :: us) ++ []) = Value.ref (s.heap.objs.size + 1) :: us := by
    rw [List.append_nil, ← hl]
    unfold pmU
    refine List.ext_getElem (by simp) fun i h1 h2 => ?_
    rw [List.getElem_map, List.getElem_range, List.getD_eq_getElem?_getD, List.getElem?_eq_getElem h2]
    rfl
  rw [e] at hb
  refine wpAny_call (make_map (f := f) I.kIn M.makes M.init (beq_iff_eq.mp M.fn) (codeAny_mono (F.run _ X.stack _ _ ⟨Value.ref (s.heap.objs.size + 1) :: us, []⟩ (Value.ref (s.heap.objs.size + 1) :: us) _ _ (E σ) (o.room.make Cl us [])
    (I2.env0.make Cl us []) hb r2 hq) fun r s' hq' => ?_))
  cases r with
  | error e => exact o.pass I2 hq'
  | ok fl =>
    cases fl with
    | ret u =>
      obtain ⟨v, H', I3, rv, ev, q3⟩ := I2.after hq'
      subst ev
      exact ⟨rv, ⟨V.ref (s.heap.objs.size + 1), H', I3, rfl, q3⟩⟩
    | next => exact False.elim hq'
    | brk => exact False.elim hq'
    | cont => exact False.elim hq'
theorem sE_make (o : Okc k c C E X) {x : Str} {p pos : Pos} {e : Expr} {es : List Expr} (hx : x ∈ c.cls) (hg : Gl X x) (hdb : (x == ("__debug__" : Str)) = false) (hst : (e :: es).all notStar = true)
    (ha : PA X (e :: es) (rdA X.K E ms)) :
    PE X (.Call (.Name x p) (e :: es) [] pos) (rdE X.K E fun σ st => bnd (ms σ st) fun ds st => bnd (C (mkey x "__init__") (.loc st.length :: ds) (st ++ [.ins x []])) fun d st' => if isNon d = true then ok (.loc st.length) st' else none) := by
  obtain ⟨hgb, hm, hcl, f, fd, ps, M, P, F, hok, har⟩ := o.mak x hx
  obtain ⟨st1, st2⟩ := Bool.and_eq_true_iff.mp (show (notStar e && es.all notStar) = true from hst)
  refine ⟨fun pins s σ H Q I h => ?_⟩
  refine wpAny_Call_Name_kw (ld_glob I hg hm ?_ hdb)
  obtain ⟨μ, env, st, hs, he, h⟩ := h
  refine PySem.W.callWith_K (h₀ := X.base) I.ok.mod.kin M.kp (thn (ha.run pos pins s σ H _ I (show rdA X.K E ms σ H fun vs H1 => ∀ x' dx, H1 x' = none → H1 dx = none → dx ≠ x' → spC X.K (C (mkey x "__init__")) ps.length (.ref x' :: vs) (upd (upd H1 dx (.own x')) x' (.ins (He.ga X.K x) dx [])) (fun v H2 => v = .non ∧ Q (.ref x') H2) (E σ) from
    ⟨μ, env, st, hs, he, h.bnd.imp fun ds st1 μ1 H1 x1 hs1 h1 vs rs x' dx hx' hdx hne => ?_⟩)) fun us s1 ⟨vs, H1, I1, r, q⟩ => ⟨I1.kIn, ?_⟩) (star_of st1) (plain_star st2)
  · have hx2 : upd H1 dx (.own x') x' = none := by rw [upd_ne (Ne.symm hne)]; exact hx'
    have e1 : Ext μ1 H1 (μ1 ++ [x']) (upd (upd H1 dx (.own x')) x' (.ins (He.ga X.K x) dx [])) := (Ext.newO hdx).trans (Ext.push hx2)
    have hs2 : RSt X.K (upd (upd H1 dx (.own x')) x' (.ins (He.ga X.K x) dx [])) (μ1 ++ [x']) (st1 ++ [.ins x []]) := (hs1.new hdx).pushO hx2 ⟨dx, [], upd_same, rfl, hcl, by simp, hgb⟩
    have hm2 : (μ1 ++ [x'])[st1.length]? = some x' := by rw [← hs1.len]; simp
    have hne2 : C (mkey x "__init__") (.loc st1.length :: ds) (st1 ++ [.ins x []]) ≠ none := fun z => by
      rw [z] at h1
      exact h1.none
    refine ⟨by rw [List.length_cons, rs.length]; exact har _ _ hne2, μ1 ++ [x'], st1 ++ [.ins x []], .loc st1.length :: ds, hs2, ⟨.ref x', vs, rfl, ⟨x', rfl, hm2⟩, rs.mono e1.mono e1.pre⟩, (h1.at e1).bnd.imp fun d st3 μ3 H3 x3 hs3 h3 v rv => ?_⟩
    obtain ⟨hd, h4⟩ := h3.ite
    refine ⟨?_, h4.ok (Ext.refl _ _) hs3 _ ⟨x', rfl, pre_get x3.pre hm2⟩⟩
    cases d <;> first | exact rv | (cases hd; done)
  · exact run_make' o M P F hok I1 r q
end
end MP

set_option Elab.async false
set_option linter.all false
set_option maxRecDepth 100000
set_option maxHeartbeats 4000000
/-! what is looked at in the written part, of own exceptions -/
namespace MP
namespace Sup
open PySem PySem.Spec PySem.W PySem.Calls PyProof.Rows PySem.HandSPX
def clsB (K : Frag) (C : Addr) : Bool := match K.lookup C with
  | some ⟨.type ty, _, .cls cd, sl⟩ => decide (ty = "type") && (match cd.mro, sl.toList with
    | .ref C' :: bm, [_, _, _, _, some (.builtin n), _] => C' == C && n == "ValueError.__new__" && !cd.hasDel && cd.hasDict && refsVE bm && decide (alongIn K "__init__" bm = some (some (.builtin "ValueError.__init__")))
    | _, _ => false)
  | _ => false
theorem clsB_ok {K : Frag} {C : Addr} (q : clsB K C = true) : ∃ nm q N bs bm sn sub ab col dd k0 k1 k2 k3 k5, K.lookup C = some (excClassObj nm q C N bs bm true sn sub ab col dd k0 k1 k2 k3 k5 "ValueError.__new__") ∧ refsVE bm = true ∧ alongIn K "__init__" bm = some (some (.builtin "ValueError.__init__")) := by
  unfold clsB at q
  split at q
  · rename_i ty dd cd sl ho
    obtain ⟨hty, q⟩ := Bool.and_eq_true_iff.mp q
    have hty := of_decide_eq_true hty
    subst hty
    split at q
    · rename_i C' bm k0 k1 k2 k3 n k5 hm hs
      simp only [Bool.and_eq_true, beq_iff_eq, Bool.not_eq_true', decide_eq_true_eq] at q
      obtain ⟨_, ⟨⟨⟨⟨q1, q2⟩, hdel⟩, hdc⟩, hr⟩, ha⟩ := q
      subst q1
      subst q2
      obtain ⟨nm, bs, mro, ns, qn, hd, sn, sub, ab, col, del⟩ := cd
      dsimp only at hm hdel hdc
      subst hm
      subst hdel
      subst hdc
      have hsl : sl = #[k0, k1, k2, k3, some (.builtin "ValueError.__new__"), k5] := by
        obtain ⟨l⟩ := sl
        simp only at hs
        subst hs
        rfl
      subst hsl
      exact ⟨_, _, _, _, _, _, _, _, _, _, _, _, _, _, _, ho, hr, ha⟩
    · cases q
  · cases q
def bodyB (f : Str) : FuncBody → Bool
  | .stmts [.Expr (.Call (.Attribute (.Call (.Name s1 _) [] [] _) s2 q3) [.Name s3 _] [] q5) _, .Assign [.Attribute (.Name s4 _) s5 _] (.Name s6 _) _] => s1 == ("super" : Str) && s2 == ("__init__" : Str) && s3 == f && s4 == ("self" : Str) && s5 == f && s6 == f && (q3.endLine == q5.line)
  | _ => false
def parB (f : Str) (a : Arguments) : Bool := a.posonlyargs.isEmpty && a.vararg.isNone && a.kwonlyargs.isEmpty && a.kw_defaults.isEmpty && a.kwarg.isNone && a.defaults.isEmpty && (match a.args with
  | [⟨a1, none, _⟩, ⟨a2, none, _⟩] => a1 == ("self" : Str) && a2 == f
  | _ => false)
theorem bodyB_ok {f : Str} {b : FuncBody} (h : bodyB f b = true) : ∃ q1 q2 q3 q4 q5 q6 q7 q8 q9 q10, b = .stmts (iB f q1 q2 q3 q4 q5 q6 q7 q8 q9 q10) ∧ (q3.endLine == q5.line) = true := by
  unfold bodyB at h
  split at h
  · simp only [Bool.and_eq_true, beq_iff_eq] at h
    obtain ⟨⟨⟨⟨⟨⟨rfl, rfl⟩, rfl⟩, rfl⟩, rfl⟩, rfl⟩, hl⟩ := h
    exact ⟨_, _, _, _, _, _, _, _, _, _, rfl, by simpa using hl⟩
  · cases h
theorem parB_ok {f : Str} {a : Arguments} (h : parB f a = true) : ∃ p1 p2, a = iA f p1 p2 := by
  unfold parB at h
  simp only [Bool.and_eq_true] at h
  obtain ⟨⟨⟨⟨⟨⟨h1, h2⟩, h3⟩, h4⟩, h5⟩, h6⟩, h7⟩ := h
  obtain ⟨po, as, va, ko, kd, kw, df⟩ := a
  dsimp only at h1 h2 h3 h4 h5 h6 h7
  split at h7
  · simp only [Bool.and_eq_true, beq_iff_eq] at h7
    obtain ⟨rfl, rfl⟩ := h7
    have e1 : po = [] := List.isEmpty_iff.mp h1
    have e2 : va = none := Option.isNone_iff_eq_none.mp h2
    have e3 : ko = [] := List.isEmpty_iff.mp h3
    have e4 : kd = [] := List.isEmpty_iff.mp h4
    have e5 : kw = none := Option.isNone_iff_eq_none.mp h5
    have e6 : df = [] := List.isEmpty_iff.mp h6
    subst e1 e2 e3 e4 e5 e6
    exact ⟨_, _, rfl⟩
  · cases h7
def scoB (f : Str) (s : Scope) : Bool := decide (s = iS f)
def cellB (K : Frag) (C : Addr) : List (Str × Addr) → Bool
  | [(n, cc)] => n == ("__class__" : Str) && (match K.lookup cc with
    | some ⟨_, _, .cell (some (.ref D)), _⟩ => D == C
    | _ => false)
  | _ => false
def codeB (K : Frag) (file : Str) : Value → Bool
  | .ref a => (match K.lookup a with
    | some ⟨_, _, .fields vs, _⟩ => (match (vs[2]? : Option Value) with
      | some (.str fl _) => fl == file
      | _ => false)
    | _ => false)
  | _ => false
def isNone : Value → Bool
  | .none => true
  | _ => false
def fnB (K : Frag) (file : Str) (C : Addr) (f : Str) (fI : Addr) : Bool := match K.lookup fI with
  | some ⟨_, _, .func fd, _⟩ => fd.name == ("__init__" : Str) && parB f fd.params && bodyB f fd.body && scoB f fd.scope && fd.globals == mainGlobals && cellB K C fd.closure && isNone fd.defaults && isNone fd.kwdefaults && codeB K file fd.code && fd.builtins == builtinsNs && codeIn K fd.code fd.qualname
  | _ => false
theorem isNone_ok {v : Value} (h : isNone v = true) : v = .none := by
  cases v <;> first | rfl | cases h
theorem cellB_ok {K : Frag} {C : Addr} {l : List (Str × Addr)} (h : cellB K C l = true) : ∃ cc : Addr, l = [(("__class__" : Str), cc)] ∧ ∃ cl cld csl, K.lookup cc = some ⟨cl, cld, .cell (some (.ref C)), csl⟩ := by
  unfold cellB at h
  split at h
  · rename_i n cc
    obtain ⟨h1, h2⟩ := Bool.and_eq_true_iff.mp h
    have h1 : n = ("__class__" : Str) := by simpa using h1
    subst h1
    split at h2
    · rename_i a b D d e
      have : D = C := by simpa using h2
      subst this
      exact ⟨cc, rfl, _, _, _, e⟩
    · cases h2
  · cases h
theorem codeB_ok {K : Frag} {file : Str} {v : Value} (h : codeB K file v = true) : ∃ cda, v = .ref cda ∧ ∃ ccl cdd vs ccs tf, K.lookup cda = some ⟨ccl, cdd, .fields vs, ccs⟩ ∧ vs[2]? = some (.str file tf) := by
  unfold codeB at h
  split at h
  · rename_i a
    split at h
    · rename_i cl od vs sl e
      split at h
      · rename_i fl tk e2
        have : fl = file := by simpa using h
        subst this
        exact ⟨a, rfl, _, _, _, _, _, e, e2⟩
      · cases h
    · cases h
  · cases h
theorem fnB_ok {K : Frag} {file : Str} {C : Addr} {f : Str} {fI : Addr} (h : fnB K file C f fI = true) :
    ∃ (oc : Value) (od : Option Addr) (qual : Str) (doc pm : Value) (an : Option Addr) (cda cc : Addr) (ct : Value) (osl : Array (Option Value)) (p1 p2 q1 q2 q3 q4 q5 q6 q7 q8 q9 q10 : Pos),
    K.lookup fI = some ⟨oc, od, .func (fnX "__init__" qual (iA f p1 p2) (iB f q1 q2 q3 q4 q5 q6 q7 q8 q9 q10) (iS f) [("__class__", cc)] .none .none doc pm an (.ref cda) ct), osl⟩ ∧ codeIn K (.ref cda) qual = true ∧ (q3.endLine == q5.line) = true ∧
    (∃ cl cld csl, K.lookup cc = some ⟨cl, cld, .cell (some (.ref C)), csl⟩) ∧
    ∃ ccl cdd vs ccs tf, K.lookup cda = some ⟨ccl, cdd, .fields vs, ccs⟩ ∧ vs[2]? = some (.str file tf) := by
  unfold fnB at h
  split at h
  · rename_i oc od fd osl ho
    simp only [Bool.and_eq_true] at h
    obtain ⟨⟨⟨⟨⟨⟨⟨⟨⟨⟨h1, h2⟩, h3⟩, h4⟩, h5⟩, h6⟩, h7⟩, h8⟩, h9⟩, h10⟩, h11⟩ := h
    obtain ⟨p1, p2, e2⟩ := parB_ok h2
    obtain ⟨q1, q2, q3, q4, q5, q6, q7, q8, q9, q10, e3, hl⟩ := bodyB_ok h3
    have e4 := of_decide_eq_true h4
    obtain ⟨cc, e6, hc⟩ := cellB_ok h6
    obtain ⟨cda, e9, hd⟩ := codeB_ok h9
    obtain ⟨nm, qual, pa, bd, sc, gl, cl, df, kd, doc, pm, an, cd, ct, bn⟩ := fd
    dsimp only at h1 e2 e3 e4 h5 e6 h7 h8 e9 h10 h11
    have e1 : nm = ("__init__" : Str) := by simpa using h1
    have e5 : gl = mainGlobals := by simpa using h5
    have e7 := isNone_ok h7
    have e8 := isNone_ok h8
    have e10 : bn = builtinsNs := by simpa using h10
    subst e1 e2 e3 e4 e5 e6 e7 e8 e9 e10
    exact ⟨oc, od, qual, doc, pm, an, cda, cc, ct, osl, p1, p2, q1, q2, q3, q4, q5, q6, q7, q8, q9, q10, ho, h11, hl, hc, hd⟩
  · cases h
def eqV (a b : Option (Option Value)) : Bool := decide (a = b)
def supB (K : Frag) (file x f : Str) : Bool :=
  let C := He.ga K x
  fOk f && clsB K C && eqV (nsIn K mainGlobals "super") (some none) && eqV (findIn K (.ref C) "__setattr__") (some (some (.builtin "object.__setattr__"))) && eqV (findIn K (.ref C) "__getattribute__") (some (some (.builtin "BaseException.__getattribute__"))) &&
  eqV (findIn K (.ref C) "__getattr__") (some none) && eqV (findIn K (.ref C) f) (some none) && (match findIn K (.ref C) "__init__" with
    | some (some (.ref fI)) => decide (typeIn K (.ref fI) = some (.type "function")) && fnB K file C f fI
    | _ => false) && keepIn K (.ref C) && decide (subIn K (.ref C) (.type "BaseException") = some true) && decide (subIn K (.ref C) (.type "ValueError") = some true) && decide (typeIn K (.ref C) = some (.type "type")) && hasDictIn K C && decide (mroIn K C (.ref C) = some true) && eqV (nsIn K cStatics "thirdparty.any") (some none)
theorem supB_ok {P : Program} {K : Frag} {mg : Str → Option Value} {h : Heap} {file x f : Str} (KX : K.In h) (G : h.Ns mainGlobals mg) (q : supB K file x f = true) (hg : mg x = some (.ref (He.ga K x))) (hf : (P.main.file == file) = true) (ht : (P.main.scope.names.lookup ("super" : Str)).isSome = false) :
    ∃ fI, SupTxt P K mg (He.ga K x) fI x f := by
  unfold supB at q
  simp only [Bool.and_eq_true, decide_eq_true_eq] at q
  obtain ⟨⟨⟨⟨⟨⟨⟨⟨⟨⟨⟨⟨⟨⟨q1, q2⟩, q3⟩, q4⟩, q5⟩, q6⟩, q7⟩, q8⟩, q9⟩, q10⟩, q11⟩, q12⟩, q13⟩, q14⟩, q15⟩ := q
  split at q8
  · rename_i fI e8
    obtain ⟨q16, q17⟩ := Bool.and_eq_true_iff.mp q8
    obtain ⟨oc, od, qual, doc, pm, an, cda, cc, ct, osl, p1, p2, r1, r2, r3, r4, r5, r6, r7, r8, r9, r10, a1, a2, a3, a4, ccl, cdd, vs, ccs, tf, a5, a6⟩ := fnB_ok q17
    exact ⟨fI, {
      fok := q1
      gC := hg
      sup := mg_none_of KX G (of_decide_eq_true q3)
      cls := clsB_ok q2
      sa := of_decide_eq_true q4
      ga := of_decide_eq_true q5
      gg := of_decide_eq_true q6
      noN := of_decide_eq_true q7
      iC := e8
      tC := of_decide_eq_true q16
      kC := q9
      exC := q10
      vE := q11
      tyC := q12
      hdC := q13
      slf := q14
      any := of_decide_eq_true q15
      fn := ⟨oc, od, qual, doc, pm, an, cda, cc, ct, osl, p1, p2, r1, r2, r3, r4, r5, r6, r7, r8, r9, r10, a1, a2, a3, a4, ccl, cdd, vs, ccs, file, tf, a5, a6, hf⟩
      top := ht }⟩
  · cases q8
/-- all of a table of own exceptions -/
def excB (K : Frag) (file : Str) (xs : List XRow) : Bool :=
  xs.all fun r => (match nsIn K mainGlobals r.nm with
    | some (some u) => u == .ref (He.ga K r.nm)
    | _ => false) && (!r.rs || ((match r.f with
      | some f => supB K file r.nm f
      | none => true) &&
    (L2.xfB K (He.ga K r.nm) && eqV (findIn K (.ref (He.ga K r.nm)) "__class__") (some (some (.builtin "object.__class__"))) && eqV (specialIn K (.builtin "object.__class__") "__get__") (some (some (.builtin "getset_descriptor.__get__"))) && decide (takesIn K (.builtin "object.__class__") = some true) && decide (mroIn K (He.ga K r.nm) (.type "object") = some true) && (clsIn K (He.ga K r.nm)).isSome) &&
    xs.all fun q => (match q.f with
      | some g => eqV (findIn K (.ref (He.ga K r.nm)) g) (some none)
      | none => true) && decide (exmOne K (.ref (He.ga K r.nm)) (.ref (He.ga K q.nm)) = some (r.up.contains q.nm)) && decide (kitOne K (.ref (He.ga K r.nm)) (.ref (He.ga K q.nm)) = some (r.up.contains q.nm))))
end Sup
open PySem PySem.Spec PyProof.Rows L2
theorem excB_ok [Gb] {P : Program} {K : PySem.W.Frag} {mg : Str → Option Value} {h : Heap} {file : Str} {xs : List XRow} (KX : K.In h) (G : h.Ns mainGlobals mg) (q : Sup.excB K file xs = true) (hf : (P.main.file == file) = true) (ht : (P.main.scope.names.lookup ("super" : Str)).isSome = false) (hx : Gb.xk = (xs.filter (·.rs)).map (·.nm)) : XOk xs P K mg := by
  unfold Sup.excB at q
  have q := List.all_eq_true.mp q
  have gl : ∀ r ∈ xs, mg r.nm = some (.ref (He.ga K r.nm)) := fun r hr => by
    have z := (Bool.and_eq_true_iff.mp (q r hr)).1
    split at z
    · rename_i u e
      have e2 : u = .ref (He.ga K r.nm) := by simpa using z
      rw [e2] at e
      exact PySem.W.mg_of KX G e
    · cases z
  have main : ∀ r ∈ xs, r.rs = true → _ := fun r hr rr => by
    have z := (Bool.and_eq_true_iff.mp (q r hr)).2
    rw [rr] at z
    exact (Bool.or_eq_true_iff.mp z).resolve_left (by simp)
  refine ⟨gl, fun r hr f ef rr => ?_, fun y hy => ?_, fun r hr rr => ?_, fun r hr rr => ?_, fun r hr rr p hp g eg => ?_, fun r hr rr p hp => ?_⟩
  · obtain ⟨z1, _⟩ := Bool.and_eq_true_iff.mp (main r hr rr)
    obtain ⟨z1, _⟩ := Bool.and_eq_true_iff.mp z1
    rw [ef] at z1
    exact ⟨by rw [hx]; exact List.mem_map.mpr ⟨r, List.mem_filter.mpr ⟨hr, rr⟩, rfl⟩, Sup.supB_ok KX G z1 (gl r hr) hf ht⟩
  · rw [hx] at hy
    obtain ⟨r, hr, e⟩ := List.mem_map.mp hy
    obtain ⟨h1, h2⟩ := List.mem_filter.mp hr
    exact ⟨r, h1, e, h2⟩
  · obtain ⟨z1, _⟩ := Bool.and_eq_true_iff.mp (main r hr rr)
    obtain ⟨_, z2⟩ := Bool.and_eq_true_iff.mp z1
    simp only [Bool.and_eq_true] at z2
    exact xfB_ok z2.1.1.1.1.1
  · obtain ⟨z1, _⟩ := Bool.and_eq_true_iff.mp (main r hr rr)
    obtain ⟨_, z2⟩ := Bool.and_eq_true_iff.mp z1
    simp only [Bool.and_eq_true, decide_eq_true_eq] at z2
    obtain ⟨⟨⟨⟨⟨_, a1⟩, a2⟩, a3⟩, a4⟩, a5⟩ := z2
    exact ⟨of_decide_eq_true a1, of_decide_eq_true a2, a3, a4, a5⟩
  · obtain ⟨_, z1⟩ := Bool.and_eq_true_iff.mp (main r hr rr)
    have z2 := List.all_eq_true.mp z1 p hp
    simp only [Bool.and_eq_true] at z2
    have z3 := z2.1.1
    rw [eg] at z3
    exact of_decide_eq_true z3
  · obtain ⟨_, z1⟩ := Bool.and_eq_true_iff.mp (main r hr rr)
    have z2 := List.all_eq_true.mp z1 p hp
    simp only [Bool.and_eq_true, decide_eq_true_eq] at z2
    exact ⟨z2.1.2, z2.2⟩
end MP

set_option Elab.async false
set_option linter.all false
set_option maxRecDepth 100000
set_option maxHeartbeats 4000000
namespace MP
open PySem PySem.Spec PyProof.Rows L2
variable [Gb]

/-! ### the evaluator's rows -/
section
variable {C : CalT}
theorem ev_call {f : Str} {es : List T} {pm : List Nat} : ev C (.call f es pm) = fun σ st => bnd (evs C es σ st) fun ds st => C f (permD pm ds) st := by funext σ st; rw [ev]
theorem evs_cons {e : T} {es : List T} : evs C (e :: es) = consM (ev C e) (evs C es) := by funext σ st; rw [evs] <;> rfl
theorem evs_nil : evs C [] = fun _ st => ok [] st := by funext σ st; rw [evs]
theorem evs_len : ∀ {es : List T} {σ : Env} {st : Sto} {ds : List D} {st' : Sto}, evs C es σ st = some (.ok ds, st') → ds.length = es.length
  | [], _, _, _, _, h => by rw [evs] at h; cases h; rfl
  | e :: es, σ, st, ds, st', h => by
    rw [evs] at h
    cases e1 : ev C e σ st with
    | none => rw [e1] at h; cases h
    | some p =>
      obtain ⟨y, s⟩ := p
      rw [e1] at h
      cases y with
      | error _ => cases h
      | ok d =>
        rw [bnd_ok] at h
        cases e2 : evs C es σ s with
        | none => rw [e2] at h; cases h
        | some p =>
          obtain ⟨y, s2⟩ := p
          rw [e2] at h
          cases y with
          | error _ => cases h
          | ok ds2 =>
            rw [bnd_ok] at h
            cases h
            rw [List.length_cons, List.length_cons, evs_len e2]
theorem evs_append : ∀ {xs ys : List T}, evs C (xs ++ ys) = fun σ st => bnd (evs C xs σ st) fun a st => bnd (evs C ys σ st) fun b st => ok (a ++ b) st
  | [], ys => by
    funext σ st
    rw [List.nil_append, evs, bnd_ok]
    cases evs C ys σ st with
    | none => rfl
    | some p =>
      obtain ⟨y, s⟩ := p
      cases y <;> rfl
  | x :: xs, ys => by
    funext σ st
    rw [List.cons_append, evs, evs, bnd_assoc]
    congr 1
    funext d st1
    rw [evs_append (xs := xs), bnd_assoc, bnd_assoc]
    congr 1
    funext a st2
    rw [bnd_assoc]
    show _ = bnd (some (.ok (d :: a), st2)) _
    rw [bnd_ok]
    congr 1
end
theorem mapO_len {α β : Type} {f : α → Option β} : ∀ {as : List α} {bs : List β}, mapO f as = some bs → bs.length = as.length
  | [], bs, h => by cases h; rfl
  | a :: as, bs, h => by
    unfold mapO at h
    split at h
    · rename_i b bs' e1 e2
      cases h
      rw [List.length_cons, List.length_cons, mapO_len e2]
    · cases h
theorem mapO_cons {α β : Type} {f : α → Option β} {a : α} {as : List α} {cs : List β} (h : mapO f (a :: as) = some cs) : ∃ b bs, f a = some b ∧ mapO f as = some bs ∧ cs = b :: bs := by
  unfold mapO at h
  split at h
  · rename_i b bs' e1 e2
    cases h
    exact ⟨b, bs', e1, e2, rfl⟩
  · cases h
theorem if_some {α : Type} {c : Prop} [Decidable c] {a : Option α} {b : α} (h : (if c then a else none) = some b) : c ∧ a = some b := by
  by_cases hc : c
  · rw [if_pos hc] at h; exact ⟨hc, h⟩
  · rw [if_neg hc] at h; cases h

/-! ### targets -/
theorem astar_all : ∀ {es : List Expr} {env : PySem.Env}, es.all notStar = true → (assignEach es env).length = es.length ∧ (assignEach es env).findIdx? (·.1) = none
  | [], _, _ => ⟨rfl, rfl⟩
  | e :: es, env, h => by
    obtain ⟨h1, h2⟩ := Bool.and_eq_true_iff.mp (show (notStar e && es.all notStar) = true from h)
    rw [astar_of h1]
    obtain ⟨a, b⟩ := astar_all (env := env) h2
    exact ⟨by rw [List.length_cons, List.length_cons, a], by rw [List.findIdx?_cons, b]; rfl⟩
theorem asgGs_len : ∀ {gs : List G} {ds : List D} {σ σ' : Env}, asgGs gs ds σ = some σ' → ds.length = gs.length
  | [], [], _, _, _ => rfl
  | [], _ :: _, _, _, h => by simp [asgGs] at h
  | _ :: _, [], _, _, h => by simp [asgGs] at h
  | g :: gs, d :: ds, σ, σ', h => by
    rw [asgGs] at h
    split at h
    · rw [List.length_cons, List.length_cons, asgGs_len h]
    · cases h
theorem cG_ok : ∀ (n : Nat) {k : Nat} {c : CC} {C : CalT} {E : L2.St → XK} {X : Cx} {e : Expr} {g : G}, Okc k c C E X → cG n c e = some g → PG X e (rdG X.K (gsl g) (asgG g))
  | 0, _, _, _, _, _, _, _, _, h => by simp [cG] at h
  | n + 1, k, c, C, E, X, e, g, o, h => by
    unfold cG at h
    split at h
    · obtain ⟨h1, h2⟩ := if_some h
      rename_i x p
      cases e1 : idx c.N x with
      | none => rw [e1] at h2; cases h2
      | some i =>
        rw [e1] at h2
        cases h2
        obtain ⟨s1, s2⟩ := o.sto h1
        have e2 : asgG (.v i) = fun d σ => some (σ.set i (some d)) := by funext d σ; rw [asgG]
        have e3 : gsl (.v i) = [i] := by rw [gsl]
        rw [e2, e3]
        exact sG_name o.nd' (o.ix e1) s1 s2
    · rename_i es k p
      cases e1 : mapO (fun e => if notStar e = true then cG n c e else none) es with
      | none => rw [e1] at h; cases h
      | some gs =>
        rw [e1] at h
        cases h
        have key : ∀ (es : List Expr) (gs : List G), mapO (fun e => if notStar e = true then cG n c e else none) es = some gs → PGs X es (rdGs X.K (gsls gs) (asgGs gs)) ∧ es.all notStar = true := by
          intro es
          induction es with
          | nil =>
            intro gs h
            cases h
            have e2 : asgGs [] = fun ds σ => match ds with | [] => some σ | _ => none := by
              funext ds σ
              cases ds <;> simp [asgGs]
            refine ⟨?_, rfl⟩
            rw [e2, show gsls [] = [] by rw [gsls]]
            exact sG_nil
          | cons e es ih =>
            intro gs h
            obtain ⟨g, gs', h1, h2, rfl⟩ := mapO_cons h
            obtain ⟨h3, h4⟩ := if_some h1
            obtain ⟨i1, i2⟩ := ih gs' h2
            have e2 : asgGs (g :: gs') = fun ds σ => match ds with
              | d :: ds => (match asgG g d σ with
                | some σ' => asgGs gs' ds σ'
                | none => none)
              | [] => none := by
              funext ds σ
              cases ds with
              | nil => simp [asgGs]
              | cons d ds => simp only [asgGs] <;> cases asgG g d σ <;> rfl
            refine ⟨?_, by show (notStar e && es.all notStar) = true; rw [h3, i2]; rfl⟩
            rw [e2, show gsls (g :: gs') = gsl g ++ gsls gs' by rw [gsls]]
            exact sG_cons (cG_ok n o h4) i1 (by rw [astar_of h3]; rfl)
        obtain ⟨k1, k2⟩ := key es gs e1
        obtain ⟨k3, k4⟩ := astar_all (env := X.env) k2
        have e2 : asgG (.tup gs) = fun d σ => match d with
          | .tup ds => asgGs gs ds σ
          | _ => none := by
          funext d σ
          cases d <;> simp [asgG]
        rw [e2, show gsl (.tup gs) = gsls gs by rw [gsl]]
        exact sG_tup o.calm k1 (fun ds σ σ' h => by rw [asgGs_len h, mapO_len e1]) k3 k4
    · cases h
end MP

set_option Elab.async false
set_option linter.all false
set_option maxRecDepth 100000
set_option maxHeartbeats 4000000
/-! except suites: what they return -/
namespace MP
open PySem PySem.Spec PyProof.Rows L2
variable [Gb]

def SlotX (i : Option Nat) (σ : L2.St) (a : Addr) : Prop := ∀ j, i = some j → σ[j]? = some (some (.ref a))
theorem xd_out {K : PySem.W.Frag} {H : Hp} {μ : List Addr} {st : Sto} {d : Addr} {vs : List (Str × V)} (hs : RSt K H μ st) (h : H d = some (.xd vs)) : d ∉ μ := fun z => by
  obtain ⟨n, e⟩ := List.mem_iff_getElem?.mp z
  have hn : n < st.length := by rw [← hs.len]; exact (List.getElem?_eq_some_iff.mp e).1
  have q := hs.at_ n _ d (List.getElem?_eq_getElem hn) e
  cases h1 : st[n] with
  | lst ds => rw [h1] at q; obtain ⟨vs', e1, _⟩ := q; rw [h] at e1; cases e1
  | ins c fs => rw [h1] at q; obtain ⟨dx, vs', e1, _⟩ := q; rw [h] at e1; cases e1
  | dic kvs => rw [h1] at q; obtain ⟨ws, e1, _⟩ := q; rw [h] at e1; cases e1
theorem RXd.ext {K : PySem.W.Frag} {H H' : Hp} {μ μ' : List Addr} {st : Sto} {x : Exn} {od : Option Addr} (hs : RSt K H μ st) (h : RXd K H μ x od) (e : Ext μ H μ' H') : RXd K H' μ' x od := by
  unfold RXd at h ⊢
  cases od with
  | none => exact h
  | some d =>
    obtain ⟨vs, e2, e3⟩ := h
    exact ⟨vs, e.keep d _ (xd_out hs e2) e2 (fun ps z => by cases z), e3.mono e.mono e.pre⟩
/-- readings in a suite: the exception x lies at a (its dict od); its value d, or a list of values -/
def rdX (K : PySem.W.Frag) (x : Exn) (od : Option Addr) (i : Option Nat) (a : Addr) (m : Option D) : TE := fun σ H Q => SlotX i σ a ∧ ∃ μ st d, RSt K H μ st ∧ RXd K H μ x od ∧ m = some d ∧ ∀ μ' H', Ext μ H μ' H' → RSt K H' μ' st → ∀ v, RD K H' μ' d v → Q v H'
def rdXT (K : PySem.W.Frag) (x : Exn) (od : Option Addr) (i : Option Nat) (a : Addr) (m : Option D) : TT := fun σ H Q => SlotX i σ a ∧ ∃ μ st b, RSt K H μ st ∧ RXd K H μ x od ∧ m = some (.bl b) ∧ ∀ μ' H', Ext μ H μ' H' → RSt K H' μ' st → Q b H'
def rdXA (K : PySem.W.Frag) (x : Exn) (od : Option Addr) (i : Option Nat) (a : Addr) (m : Option (List D)) : TA := fun σ H Q => SlotX i σ a ∧ ∃ μ st ds, RSt K H μ st ∧ RXd K H μ x od ∧ m = some ds ∧ ∀ μ' H', Ext μ H μ' H' → RSt K H' μ' st → ∀ vs, RDs K H' μ' ds vs → Q vs H'

/-- isinstance of a caught exception, with a dict -/
def rIsX (K : PySem.W.Frag) (D a : Addr) (od : Option Addr) : List V → Hp → VK → Prop := fun xs H Q => ∃ (c : V) (cv : Value) (b : Bool), xs = [.ref a, c] ∧ (∀ u, RelV c u → u = cv) ∧ PySem.W.kitOne K (.ref D) cv = some b ∧ (∀ d, od = some d → ∃ fs, H d = some (.xd fs)) ∧ Q (.bl b) H
theorem call_isX {X : Cx} {a D : Addr} {oe : Obj} {od : Option Addr} {pn : List (Addr × Obj)} (C : XfC X.K D) (h1 : PySem.W.findIn X.K (.ref D) "__class__" = some (some (.builtin "object.__class__"))) (h2 : PySem.W.specialIn X.K (.builtin "object.__class__") "__get__" = some (some (.builtin "getset_descriptor.__get__")))
    (h3 : PySem.W.takesIn X.K (.builtin "object.__class__") = some true) (h4 : PySem.W.mroIn X.K D (.type "object") = some true) (h5 : (PySem.W.clsIn X.K D).isSome = true) (hz : Zc (.ref D) od oe) (hf : ∃ vs, oe.data = .fields vs) : CallR (X.suite a ((a, oe) :: pn)) (.builtin "isinstance") (rIsX X.K D a od) := by
  intro pins s σ H xs us Q I r h
  obtain ⟨c, cv, b, rfl, hcv, e, hd, q⟩ := h
  cases r with
  | cons rx rr =>
    cases rr with
    | cons rt rr =>
      cases rr
      cases rx
      have ec := hcv _ rt
      subst ec
      obtain ⟨hget, _⟩ := I.pin (a, oe) (List.mem_append.mpr (.inl List.mem_cons_self))
      obtain ⟨vs, hv⟩ := hf
      have J : ∃ oo, PySem.W.InstAt s.heap a oe D oo := by
        cases od with
        | none =>
          refine ⟨none, hget, hz.1, by unfold PySem.W.notCls; rw [hv] <;> rfl, by rw [hz.2]; trivial⟩
        | some dd =>
          obtain ⟨fs, ea⟩ := hd dd rfl
          have hx : ObjOk X.prog X.w H s.heap dd (.xd fs) := I.hok dd _ ea
          obtain ⟨mA, hns, hr⟩ := hx
          obtain ⟨oo, ho, _⟩ := lookIn_ns hns
          exact ⟨some oo, hget, hz.1, by unfold PySem.W.notCls; rw [hv] <;> rfl, by rw [hz.2]; exact ho⟩
      obtain ⟨oo, J⟩ := J
      exact PySem.W.kia_one (PySem.W.kitx_exc h5 C.ga C.gg C.exC h1 h2 h3 h4) I.kIn J e (fun z => nomatch z) fun tk => ⟨.bl b, H, I.kept (t' := tk) fun _ _ z => z, rfl, q⟩

/-! ### rules -/
section
variable {X : Cx} {x : Exn} {od : Option Addr} {i : Option Nat} {a : Addr} {e b c : Expr} {pos : Pos} {pn : List (Addr × Obj)} {m ma mb mc : Option D}
theorem sX_lit {d : D} {v : V} (h : PE X e (tC v)) (r : ∀ H μ, RD X.K H μ d v) : PE X e (rdX X.K x od i a (some d)) := imE h fun σ H Q ⟨_, μ, st, d', hs, hx, e1, q⟩ => by
  cases e1
  exact q μ H (Ext.refl _ _) hs v (r H μ)
def iteO {α : Type} (c : Option D) (a b : Option α) : Option α := match c with
  | some (.bl true) => a
  | some (.bl false) => b
  | _ => none
theorem sX_ite (hc : PT X c (rdXT X.K x od i a mc)) (ha : PE X e (rdX X.K x od i a ma)) (hb : PE X b (rdX X.K x od i a mb)) : PE X (.IfExp c e b pos) (rdX X.K x od i a (iteO mc ma mb)) :=
  imE (pe_ifExp hc ha hb) fun σ H Q ⟨h0, μ, st, d, hs, hx, e1, q⟩ => by
    unfold iteO at e1
    split at e1
    · exact ⟨h0, μ, st, true, hs, hx, rfl, fun μ' H' x1 hs1 => iteT ⟨h0, μ', st, d, hs1, hx.ext hs x1, e1, fun μ2 H2 x2 => q μ2 H2 (x1.trans x2)⟩⟩
    · exact ⟨h0, μ, st, false, hs, hx, rfl, fun μ' H' x1 hs1 => iteF ⟨h0, μ', st, d, hs1, hx.ext hs x1, e1, fun μ2 H2 x2 => q μ2 H2 (x1.trans x2)⟩⟩
    · cases e1
def notO (a : Option D) : Option D := match a with
  | some (.bl b) => some (.bl (!b))
  | _ => none
theorem sXT_not (ha : PT X e (rdXT X.K x od i a ma)) : PT X (.UnaryOp .Not e pos) (rdXT X.K x od i a (notO ma)) :=
  imT (pt_not ha) fun σ H Q ⟨h0, μ, st, d, hs, hx, e1, q⟩ => by
    unfold notO at e1
    split at e1
    · cases e1
      exact ⟨h0, μ, st, _, hs, hx, rfl, fun μ' H' x1 hs1 => q μ' H' x1 hs1⟩
    · cases e1
def andO (a b : Option D) : Option D := match a with
  | some (.bl true) => b
  | some (.bl false) => some (.bl false)
  | _ => none
theorem sXT_and (ha : PT X e (rdXT X.K x od i a ma)) (hb : PT X b (rdXT X.K x od i a mb)) : PT X (.BoolOp .And [e, b] pos) (rdXT X.K x od i a (andO ma mb)) :=
  imT (PW.pt (pw_and ha (pw_and1 hb))) fun σ H Q ⟨h0, μ, st, d, hs, hx, e1, q⟩ => by
    unfold andO at e1
    split at e1
    · exact ⟨h0, μ, st, true, hs, hx, rfl, fun μ' H' x1 hs1 => iteT ⟨h0, μ', st, d, hs1, hx.ext hs x1, e1, fun μ2 H2 x2 => q μ2 H2 (x1.trans x2)⟩⟩
    · cases e1
      exact ⟨h0, μ, st, false, hs, hx, rfl, fun μ' H' x1 hs1 => iteF (q μ' H' x1 hs1)⟩
    · cases e1
theorem sXT_tru (ha : PE X e (rdX X.K x od i a ma)) (he : ∀ whole, isTrue e X.env whole = (do let v ← whole; standAt e.pos; holding [v] (truthy v))) : PT X e (rdXT X.K x od i a ma) :=
  imT (pt_truth ha he) fun σ H Q ⟨h0, μ, st, d, hs, hx, e1, q⟩ =>
    ⟨h0, μ, st, .bl d, hs, hx, e1, fun μ' H' x1 hs1 v rv => by
      rw [show v = _ from rv]
      exact ⟨d, by first | exact rfl | exact .inl rfl | (unfold TruV; simp), q μ' H' x1 hs1⟩⟩
def subO (a b : Option D) : Option D := match a, b with
  | some (.int i), some (.int j) => some (.int (i - j))
  | _, _ => none
theorem sX_sub (ha : PE X e (rdX X.K x od i a ma)) (hb : PE X b (rdX X.K x od i a mb)) : PE X (.BinOp e .Sub b pos) (rdX X.K x od i a (subO ma mb)) :=
  imE (pe_op op_sub ha hb) fun σ H Q ⟨h0, μ, st, d, hs, hx, e1, q⟩ => by
    unfold subO at e1
    split at e1
    · cases e1
      exact ⟨h0, μ, st, _, hs, hx, rfl, fun μ' H' x1 hs1 v rv => ⟨h0, μ', st, _, hs1, hx.ext hs x1, rfl, fun μ2 H2 x2 hs2 w rw => ⟨_, _, rv, rw, q μ2 H2 (x1.trans x2) hs2 _ rfl⟩⟩⟩
    · cases e1
theorem sXA_nil : PA X [] (rdXA X.K x od i a (some [])) := imA pa_nil fun σ H Q ⟨h0, μ, st, d, hs, hx, e1, q⟩ => by
  cases e1
  exact q μ H (Ext.refl _ _) hs [] rfl
def consO (a : Option D) (b : Option (List D)) : Option (List D) := match a, b with
  | some d, some ds => some (d :: ds)
  | _, _ => none
theorem sXA_cons {es : List Expr} {ms : Option (List D)} (ha : PE X e (rdX X.K x od i a ma)) (hr : PA X es (rdXA X.K x od i a ms)) (hs : starEach (e :: es) X.env = (false, eval e X.env) :: starEach es X.env) : PA X (e :: es) (rdXA X.K x od i a (consO ma ms)) :=
  imA (pa_cons ha hr hs) fun σ H Q ⟨h0, μ, st, d, hs, hx, e1, q⟩ => by
    unfold consO at e1
    split at e1
    · cases e1
      exact ⟨h0, μ, st, _, hs, hx, rfl, fun μ' H' x1 hs1 v rv => ⟨h0, μ', st, _, hs1, hx.ext hs x1, rfl, fun μ2 H2 x2 hs2 ws rw => q μ2 H2 (x1.trans x2) hs2 _ (.cons (rv.mono x2.mono x2.pre) rw)⟩⟩
    · cases e1
theorem sX_tup {es : List Expr} {k : Nat} {ms : Option (List D)} (h : PA X es (rdXA X.K x od i a ms)) (hl : es.length ≤ sizeLine) (hm : ∀ ds, ms = some ds → ds.length = es.length) : PE X (.Tuple es k pos) (rdX X.K x od i a (ms.map .tup)) :=
  imE (pe_tup h) fun σ H Q ⟨h0, μ, st, d, hs, hx, e1, q⟩ => by
    obtain ⟨ds, e2, rfl⟩ := Option.map_eq_some_iff.mp e1
    exact ⟨h0, μ, st, ds, hs, hx, e2, fun μ' H' x1 hs1 vs rs => ⟨by rw [rs.length, hm ds e2]; exact hl, fun p hp => q μ (upd H' p (.tup vs)) |> fun _ => q μ' (upd H' p (.tup vs)) (x1.trans (Ext.newO hp)) (hs1.new hp) _ ⟨p, vs, rfl, .of upd_same, rs.mono (Mono.new hp) (List.prefix_refl _)⟩⟩⟩
theorem sX_name {j : Nat} {n : Str} (hN : X.N[j]? = some n) (hv : Vis X.env.scope n) (hd : (n == ("__debug__" : Str)) = false) (hcd : (n == ("__classdict__" : Str)) = false) : PE X (.Name n pos) (fun σ H Q => σ[j]? = some (some (.ref a)) ∧ Q (.ref a) H) :=
  imE (pe_var hN hv hd hcd) fun σ H Q ⟨h, q⟩ => ⟨.ref a, h, q⟩
theorem sX_fld {D : Addr} {oe : Obj} {j : Nat} {n f : Str} {p1 : Pos} {cls : Value} (T : XfC X.K D) (hno : PySem.W.findIn X.K (.ref D) f = some none) (hz : Zc cls od oe) (hc : cls = .ref D) (hf : ∃ vs, oe.data = .fields vs) (hN : X.N[j]? = some n) (hv : Vis X.env.scope n) (hd : (n == ("__debug__" : Str)) = false) (hcd : (n == ("__classdict__" : Str)) = false) (hi : i = some j) :
    PE (X.suite a ((a, oe) :: pn)) (.Attribute (.Name n p1) f pos) (rdX X.K x od i a (x.fs.lookup f)) :=
  imE (pe_xf (X := X) (C := D) (n := f) T hno hz hf (sX_name (X := X.suite a ((a, oe) :: pn)) (a := a) hN hv hd hcd) rfl) fun σ H Q ⟨h0, μ, st, d, hs, hx, e1, q⟩ => by
    cases od with
    | none =>
      rw [show x.fs = [] from hx] at e1
      cases e1
    | some dd =>
      obtain ⟨vs, e3, e4⟩ := hx
      obtain ⟨v, e5, rv⟩ := e4.get e1
      exact ⟨h0 j hi, rfl, hc, dd, vs, v, rfl, e3, e5, q μ H (Ext.refl _ _) hs v rv⟩
end
end MP

set_option Elab.async false
set_option linter.all false
set_option maxRecDepth 100000
set_option maxHeartbeats 4000000
namespace MP
open PySem PySem.Spec PyProof.Rows L2
variable [Gb]

/-! ### the compiler is right -/
def SE (n : Nat) : Prop := ∀ {k : Nat} {c : CC} {C : CalT} {E : L2.St → XK} {X : Cx} {e : Expr} {t : T}, Okc k c C E X → cE n c e = some t → PE X e (rdE X.K E (ev C t))
def ST (n : Nat) : Prop := ∀ {k : Nat} {c : CC} {C : CalT} {E : L2.St → XK} {X : Cx} {e : Expr} {t : T}, Okc k c C E X → cT n c e = some t → PT X e (rdT X.K E (ev C t))
def SW (n : Nat) : Prop := ∀ {k : Nat} {c : CC} {C : CalT} {E : L2.St → XK} {X : Cx} {e : Expr} {t : T}, Okc k c C E X → cW n c e = some t → PW X e (rdT X.K E (ev C t))
def SAs (n : Nat) : Prop := ∀ {k : Nat} {c : CC} {C : CalT} {E : L2.St → XK} {X : Cx} {es : List Expr} {ts : List T}, Okc k c C E X → cEs n c es = some ts → PA X es (rdA X.K E (evs C ts)) ∧ es.all notStar = true ∧ ts.length = es.length
def SKw (n : Nat) : Prop := ∀ {k : Nat} {c : CC} {C : CalT} {E : L2.St → XK} {X : Cx} {kws : List Keyword} {ts : List T}, Okc k c C E X → cEs n c (kws.map (·.value)) = some ts → PK X kws (rdA X.K E (evs C ts))
def SCall (n : Nat) : Prop := ∀ {k : Nat} {c : CC} {C : CalT} {E : L2.St → XK} {X : Cx} {f : Str} {es : List Expr} {kws : List Keyword} {t : T} {p pos : Pos}, Okc k c C E X → cCall n c f es kws = some t → PE X (.Call (.Name f p) es kws pos) (rdE X.K E (ev C t))
def SI (n : Nat) : Prop := ∀ {k : Nat} {c : CC} {C : CalT} {E : L2.St → XK} {X : Cx} {e : Expr} {ik : IK} {ts : List T} {tg : Expr}, Okc k c C E X → cI n c tg e = some (ik, ts) → PI X tg e (rdI X.K E (evs C ts) ik) ∧ notSet e = true
def SC (n : Nat) : Prop := ∀ {k : Nat} {c : CC} {C : CalT} {E : L2.St → XK} {X : Cx} {es : List Expr} {ts : List T}, Okc k c C E X → cC n c es = some ts → PTs X es (rdC X.K E (evc C ts))
def SComp (n : Nat) : Prop := ∀ {k : Nat} {c : CC} {C : CalT} {E : L2.St → XK} {X : Cx} {elt : Expr} {gens : List Comprehension} {scope : Scope} {t : T} {pos : Pos}, Okc k c C E X → cComp n c elt gens scope = some t →
  PE X (.ListComp elt gens scope pos) (rdE X.K E (ev C t)) ∧ ∀ {F : XK}, E = kE F → ∀ {i : Nat} {y : Str} {py spos : Pos}, X.N[i]? = some y → X.env.scope.names.lookup y = some .local → swapsWith (.ListComp elt gens scope pos) (some (.Name y py)) spos.line X.env = pure true →
    PS X (.Assign [.Name y py] (.ListComp elt gens scope pos) spos) (rdS X.K F fun σ st => bnd (ev C t σ st) fun d st => ok (.nx (σ.set i (some d))) st)
def SGen (n : Nat) : Prop := ∀ {k : Nat} {c : CC} {C : CalT} {E : L2.St → XK} {X : Cx} {f : Str} {ag : Ag} {elt : Expr} {gens : List Comprehension} {scope : Scope} {t : T} {gp p pos : Pos}, Okc k c C E X → agOf f = some ag → X.mg f = none → Gl X f → (f == ("__debug__" : Str)) = false → c.gen = true → cGen n c ag elt gens scope = some t →
  PE X (.Call (.Name f p) [.GeneratorExp elt gens scope gp] [] pos) (rdE X.K E (ev C t))
structure All (n : Nat) : Prop where
  e : SE n
  t : ST n
  w : SW n
  as : SAs n
  kw : SKw n
  call : SCall n
  i : SI n
  c : SC n
  comp : SComp n
  gen : SGen n
theorem stepAs {n : Nat} (ih : All n) : SAs (n + 1) := by
  intro k c C E X es ts o h
  unfold cEs at h
  induction es generalizing ts with
  | nil =>
    cases h
    exact ⟨by rw [evs_nil]; exact sA_nil, rfl, rfl⟩
  | cons e es ih2 =>
    obtain ⟨t, ts', h1, h2, rfl⟩ := mapO_cons h
    obtain ⟨h3, h4⟩ := if_some h1
    obtain ⟨i1, i2, i3⟩ := ih2 h2
    refine ⟨?_, by show (notStar e && es.all notStar) = true; rw [h3, i2]; rfl, by rw [List.length_cons, List.length_cons, i3]⟩
    rw [evs_cons]
    exact sA_cons (ih.e o h4) i1 (star_of h3)
theorem stepKw {n : Nat} (ih : All n) : SKw (n + 1) := by
  intro k c C E X kws ts o h
  unfold cEs at h
  induction kws generalizing ts with
  | nil =>
    cases h
    rw [evs_nil]
    exact imPK pk_nil fun σ H Q ⟨μ, env, st, hs, he, h⟩ => h.ok (Ext.refl μ H) hs _ rfl
  | cons kw kws ih2 =>
    obtain ⟨t, ts', h1, h2, rfl⟩ := mapO_cons h
    obtain ⟨h3, h4⟩ := if_some h1
    rw [evs_cons]
    obtain ⟨nm, v, p⟩ := kw
    exact imPK (pk_cons (ih.e o h4) (ih2 h2)) fun σ H Q h => cons_of h
theorem stepC {n : Nat} (ih : All n) : SC (n + 1) := by
  intro k c C E X es ts o h
  unfold cC at h
  split at h
  · cases h
    have e : evc C [] = fun _ st => ok true st := by funext σ st; rw [evc]
    rw [e]; exact sC_nil
  · rename_i e
    cases e1 : cT n c e with
    | none => rw [e1] at h; cases h
    | some t =>
      rw [e1] at h
      cases h
      have e2 : evc C [t] = fun σ st => bnd (ev C t σ st) fun d st => match d with
        | .bl true => ok true st
        | .bl false => ok false st
        | _ => none := by
        funext σ st
        rw [evc]
        congr 1
      rw [e2]
      exact sC_one (ih.t o e1)
  · cases h
theorem stepW {n : Nat} (ih : All n) : SW (n + 1) := by
  intro k c C E X e t o h
  unfold cW at h
  split at h
  · rename_i op a p
    cases op with
    | And => exact pw_and1 (ih.t o h)
    | Or => exact pw_or1 (ih.t o h)
  · split at h
    · rename_i e1 e2
      cases h
      have e3 : ∀ {x y : T}, ev C (.and x y) = andM (ev C x) (ev C y) := by intro x y; funext σ st; rw [ev] <;> rfl
      rw [e3]
      exact sT_and (ih.t o e1) (ih.w o e2)
    · cases h
  · split at h
    · rename_i e1 e2
      cases h
      have e3 : ∀ {x y : T}, ev C (.or x y) = orM (ev C x) (ev C y) := by intro x y; funext σ st; rw [ev] <;> rfl
      rw [e3]
      exact sT_or (ih.t o e1) (ih.w o e2)
    · cases h
  · cases h
theorem opt_map {α β : Type} {f : α → β} {a : Option α} {b : β} (h : a.map f = some b) : ∃ x, a = some x ∧ f x = b := Option.map_eq_some_iff.mp h
theorem stepT {n : Nat} (ih : All n) : ST (n + 1) := by
  intro k c C E X e t o h
  unfold cT at h
  split at h
  · obtain ⟨x, e1, rfl⟩ := opt_map h
    have e3 : ∀ {x : T}, ev C (.not x) = notM (ev C x) := by intro x; funext σ st; rw [ev] <;> rfl
    rw [e3]
    exact sT_not (ih.t o e1)
  · exact PW.pt (ih.w o h)
  · obtain ⟨h1, h2⟩ := if_some h
    split at h2
    · rename_i e1 e2
      cases h2
      have e3 : ∀ {op : CmpOp} {x y : T}, ev C (.cmp op x y) = fun σ st => bnd (ev C x σ st) fun a st => bnd (ev C y σ st) fun b st => cmpop op a b st := by intro op x y; funext σ st; rw [ev]
      rw [e3]
      exact sT_cmp o.units h1 (ih.e o e1) (ih.e o e2)
    · cases h2
  · obtain ⟨h1, h2⟩ := if_some h
    split at h2
    · rename_i e1 e2 e4
      cases h2
      have e3 : ∀ {p q : CmpOp} {x y z : T}, ev C (.chain p q x y z) = chainM p q (ev C x) (ev C y) (ev C z) := by intro p q x y z; funext σ st; rw [ev] <;> rfl
      rw [e3]
      exact sT_chain o.units h1 (ih.e o e1) (ih.e o e2) (ih.e o e4)
    · cases h2
  · obtain ⟨h1, h2⟩ := if_some h
    obtain ⟨x, e1, rfl⟩ := opt_map h2
    have e3 : ∀ {x : T}, ev C (.tru x) = fun σ st => bnd (ev C x σ st) fun a st => tru a st := by intro x; funext σ st; rw [ev]
    rw [e3]
    exact sT_tru (ih.e o e1) (truth_of h1)
theorem tup_of {tg : Expr} (h : isTupE tg = true) : ∃ elts kk p, tg = .Tuple elts kk p := by
  cases tg <;> first | exact ⟨_, _, _, rfl⟩ | cases h
theorem stepI {n : Nat} (ih : All n) : SI (n + 1) := by
  intro k c C E X e ik ts tg o h
  have seq : ∀ {e : Expr} {ik : IK} {ts : List T}, (cE n c e).map (fun x => (IK.seq, [x])) = some (ik, ts) → PI X tg e (rdI X.K E (evs C ts) ik) := by
    intro e ik ts h
    obtain ⟨x, e1, e2⟩ := opt_map h
    cases e2
    rw [evs_cons, evs_nil]
    exact sI_seq (ih.e o e1)
  have sa1 : ∀ {a : Expr} {x : T}, cE n c a = some x → notStar a = true → PA X [a] (rdA X.K E (evs C [x])) := fun e1 h3 => by
    rw [evs_cons, evs_nil]
    exact sA_cons (ih.e o e1) sA_nil (star_of h3)
  unfold cI at h
  split at h
  · rename_i f p a pos
    split at h
    · rename_i hf
      obtain ⟨⟨h1, h2, h3⟩, h4⟩ := if_some h
      obtain ⟨x, e1, e2⟩ := opt_map h4
      cases e2
      subst hf
      exact ⟨sI_range1 (o.glo h1) (o.free _ (List.contains_iff_mem.mp h2)) (sa1 e1 h3) (by rw [star_of h3]; rfl), rfl⟩
    · split at h
      · rename_i hf
        obtain ⟨⟨h1, h2, h3, h4⟩, h5⟩ := if_some h
        obtain ⟨x, e1, e2⟩ := opt_map h5
        cases e2
        subst hf
        obtain ⟨elts, kk, tp, rfl⟩ := tup_of h4
        exact ⟨sI_enum (o.glo h1) (o.free _ (List.contains_iff_mem.mp h2)) (sa1 e1 h3) (by rw [star_of h3]; rfl), rfl⟩
      · split at h
        · rename_i hf
          obtain ⟨⟨h1, h2, h3⟩, h4⟩ := if_some h
          obtain ⟨x, e1, e2⟩ := opt_map h4
          cases e2
          subst hf
          refine ⟨?_, rfl⟩
          rw [evs_cons, evs_nil]
          exact sI_rev (o.glo h1) (o.free _ (List.contains_iff_mem.mp h2)) (ih.e o e1) (star_of h3)
        · exact ⟨seq h, rfl⟩
  · rename_i f p a b pos
    split at h
    · rename_i hf
      obtain ⟨⟨h1, h2, h3, h4⟩, h5⟩ := if_some h
      split at h5
      · rename_i x y e1 e2
        cases h5
        subst hf
        refine ⟨?_, rfl⟩
        have sa : PA X [a, b] (rdA X.K E (evs C [x, y])) := by
          rw [evs_cons]
          exact sA_cons (ih.e o e1) (sa1 e2 h4) (star_of h3)
        exact sI_range2 (o.glo h1) (o.free _ (List.contains_iff_mem.mp h2)) sa (by rw [star_of h3, star_of h4]; rfl) (by rw [star_of h4]; rfl)
      · cases h5
    · split at h
      · rename_i hf
        obtain ⟨⟨h1, h2, h3, h4, h6⟩, h5⟩ := if_some h
        split at h5
        · rename_i x y e1 e2
          cases h5
          subst hf
          refine ⟨?_, rfl⟩
          have sa : PA X [a, b] (rdA X.K E (evs C [x, y])) := by
            rw [evs_cons]
            exact sA_cons (ih.e o e1) (sa1 e2 h4) (star_of h3)
          obtain ⟨elts, kk, tp, rfl⟩ := tup_of h6
          exact sI_zip (o.glo h1) (o.free _ (List.contains_iff_mem.mp h2)) sa (star_of h3) (by rw [star_of h4]; rfl)
        · cases h5
      · exact ⟨seq h, rfl⟩
  · rename_i f p a b d pos
    split at h
    · rename_i hf
      obtain ⟨⟨h1, h2, h3, h4, h5⟩, h6⟩ := if_some h
      split at h6
      · rename_i x y z e1 e2 e3
        cases h6
        subst hf
        refine ⟨?_, rfl⟩
        have sa : PA X [a, b, d] (rdA X.K E (evs C [x, y, z])) := by
          rw [evs_cons, evs_cons]
          exact sA_cons (ih.e o e1) (sA_cons (ih.e o e2) (sa1 e3 h5) (star_of h4)) (star_of h3)
        exact sI_range3 (o.glo h1) (o.free _ (List.contains_iff_mem.mp h2)) sa (star_of h3) (plain_star (es := [b, d]) (by simp [h4, h5]))
      · cases h6
    · exact ⟨seq h, rfl⟩
  · obtain ⟨h1, h2⟩ := if_some h
    exact ⟨seq h2, h1⟩

theorem boot_bool' : bootBuiltins "bool" = some (.type "bool") := by decide +kernel
theorem boot_str' : bootBuiltins "str" = some (.type "str") := by decide +kernel
theorem tyOf_ok {x : Str} {ty : Ty} (h : tyOf x = some ty) : bootBuiltins x = some (.type (tyS ty)) ∧ x ≠ "__name__" ∧ (x == ("__debug__" : Str)) = false := by
  unfold tyOf at h
  split at h
  · rename_i e; cases h; subst e; exact ⟨boot_int, by decide, by decide⟩
  · split at h
    · rename_i e; cases h; subst e; exact ⟨boot_bool', by decide, by decide⟩
    · split at h
      · rename_i e; cases h; subst e; exact ⟨boot_str', by decide, by decide⟩
      · split at h
        · rename_i e; cases h; subst e; exact ⟨boot_tuple, by decide, by decide⟩
        · split at h
          · rename_i e; cases h; subst e; exact ⟨boot_list, by decide, by decide⟩
          · cases h
theorem boot_abs' : bootBuiltins "abs" = some (.builtin "abs") := by decide +kernel
theorem boot_min' : bootBuiltins "min" = some (.builtin "min") := by decide +kernel
theorem boot_sorted' : bootBuiltins "sorted" = some (.builtin "sorted") := by decide +kernel
theorem boot_sum' : bootBuiltins "sum" = some (.builtin "sum") := by decide +kernel
theorem boot_max' : bootBuiltins "max" = some (.builtin "max") := by decide +kernel
theorem biOf_ok {x : Str} {n : Nat} {b : Bi} (h : biOf x n = some b) : bootBuiltins x = some (biV b) ∧ x ≠ "__name__" ∧ 0 < n := by
  unfold biOf at h
  split at h
  · rename_i e; cases h; obtain ⟨rfl, rfl⟩ := e; exact ⟨PySem.boot_len, by decide, by decide⟩
  · split at h
    · rename_i e; cases h; obtain ⟨rfl, rfl⟩ := e; exact ⟨boot_abs', by decide, by decide⟩
    · split at h
      · rename_i e; cases h; obtain ⟨rfl, rfl⟩ := e; exact ⟨boot_int, by decide, by decide⟩
      · split at h
        · rename_i e; cases h; obtain ⟨rfl, rfl⟩ := e; exact ⟨boot_tuple, by decide, by decide⟩
        · split at h
          · rename_i e; cases h; obtain ⟨rfl, rfl⟩ := e; exact ⟨boot_list, by decide, by decide⟩
          · split at h
            · rename_i e; cases h; obtain ⟨rfl, rfl⟩ := e; exact ⟨boot_str', by decide, by decide⟩
            split at h
            · rename_i e; cases h; obtain ⟨rfl, rfl⟩ := e; exact ⟨boot_sorted', by decide, by decide⟩
            split at h
            · rename_i e; cases h; obtain ⟨rfl, rfl⟩ := e; exact ⟨boot_sum', by decide, by decide⟩
            · split at h
              · rename_i e; cases h; obtain ⟨rfl, rfl⟩ := e; exact ⟨boot_min', by decide, by decide⟩
              · split at h
                · rename_i e; cases h; obtain ⟨rfl, rfl⟩ := e; exact ⟨boot_max', by decide, by decide⟩
                · cases h
section
variable {k : Nat} {c : CC} {C : CalT} {E : L2.St → XK} {X : Cx} {es : List Expr} {ts : List T} {f : Str} {p pos : Pos}
theorem ev_bi {b : Bi} {es : List T} : ev C (.bi b es) = fun σ st => bnd (evs C es σ st) fun ds st => biop b ds st := by funext σ st; rw [ev]
theorem sE_bi {b : Bi} (o : Okc k c C E X) (hg : Gl X f) (hm : X.mg f = none) (hv : bootBuiltins f = some (biV b)) (hn : f ≠ "__name__") (hd : (f == ("__debug__" : Str)) = false) (hne : 0 < es.length) (hst : es.all notStar = true) (ha : PA X es (rdA X.K E (evs C ts))) :
    PE X (.Call (.Name f p) es [] pos) (rdE X.K E (ev C (.bi b ts))) := by
  cases es with
  | nil => cases hne
  | cons e es =>
    obtain ⟨h1, h2⟩ := Bool.and_eq_true_iff.mp (show (notStar e && es.all notStar) = true from hst)
    rw [ev_bi]
    have im : ∀ {t : TE}, PE X (.Call (.Name f p) (e :: es) [] pos) (tCB (rBi X.K b) (rdA X.K E (evs C ts))) → PE X (.Call (.Name f p) (e :: es) [] pos) (rdE X.K E fun σ st => bnd (evs C ts σ st) fun ds st => biop b ds st) := fun h => imE h fun σ H Q h => args_of (fun hs r h => rBi_of hs r h) h
    refine im (t := fun _ _ _ => True) ?_
    have rk := rBi_ok (X := X) o.calm b
    cases b <;> first
      | exact pe_callB rk hg hm hv ha hn hd (star_of h1) (plain_star h2)
      | exact pe_callTy rk hg hm hv ha hn hd (star_of h1) (plain_star h2)
      | cases hv
theorem libOf_ok {id : String} {b : Bi} (h : libOf id = some b) : biV b = .builtin id := by
  unfold libOf at h
  split at h
  · rename_i e; cases h; subst e; rfl
  · cases h
theorem sE_lib {b : Bi} {id : String} (o : Okc k c C E X) (hg : Gl X f) (hm : X.mg f = some (.builtin id)) (hv : biV b = .builtin id) (hd : (f == ("__debug__" : Str)) = false) (hne : 0 < es.length) (hst : es.all notStar = true) (ha : PA X es (rdA X.K E (evs C ts))) :
    PE X (.Call (.Name f p) es [] pos) (rdE X.K E (ev C (.bi b ts))) := by
  cases es with
  | nil => cases hne
  | cons e es =>
    obtain ⟨h1, h2⟩ := Bool.and_eq_true_iff.mp (show (notStar e && es.all notStar) = true from hst)
    rw [ev_bi]
    have rk := rBi_ok (X := X) o.calm b
    rw [hv] at rk
    exact imE (pe_callBfun rk hg hm ha hd (star_of h1) (plain_star h2)) fun σ H Q h => args_of (fun hs r h => rBi_of hs r h) h
end
theorem pm_len {ps : List Str} {n : Nat} {ks : List Str} {pm : List Nat} (h : okCall ps n ks pm = true) : pm.length = ps.length := by
  unfold okCall at h
  simp only [Bool.and_eq_true] at h
  exact okPm_len h.2
theorem stepCall {n : Nat} (ih : All n) : SCall (n + 1) := by
  intro k c C E X f es kws t p pos o h
  unfold cCall at h
  obtain ⟨⟨h1, h2⟩, hA⟩ := if_some h
  clear h
  have hg := o.glo h1
  have hd := (plainName_of h2).1
  split at hA
  · rename_i ps e1
    obtain ⟨a, fd, hm, hk, P, F⟩ := o.cal f ps e1
    split at hA
    · rename_i ks xs ys e2 e3 e4
      obtain ⟨a1, a2, a3⟩ := ih.as o e3
      have b1 := ih.kw o e4
      have lys : ys.length = kws.length := by
        have q := (ih.as o e4).2.2
        rw [List.length_map] at q; exact q
      split at hA
      · rename_i hkw
        obtain ⟨⟨c1, c2⟩, hB⟩ := if_some hA
        clear hA
        cases hB
        have hkw : kws = [] := List.isEmpty_iff.mp hkw
        subst hkw
        have e5 : ys = [] := List.eq_nil_of_length_eq_zero lys
        subst e5
        refine imE (sE_own (Cf := C f) o P F hg hm hk hd (ks := []) rfl a2 c1 (by simp) a1 b1 (fun σ st ds st' z => by rw [evs_len z, a3]) (fun σ st ds st' z => by rw [evs_len z]; rfl) (fun z => by
          subst z
          have e6 : xs = [] := List.eq_nil_of_length_eq_zero a3
          rw [e6, evs_nil]) (fun _ => evs_nil)) fun σ H Q h => ?_
        obtain ⟨μ, env, st, hs, he, h⟩ := h
        refine ⟨μ, env, st, hs, he, ?_⟩
        rw [ev_call] at h
        have e7 : (fun (σ : Env) (st : Sto) => bnd (bnd (evs C xs σ st) fun a st => bnd (evs C [] σ st) fun b st => ok (a ++ b) st) fun ds st => C f ((List.range ps.length).map fun i => ds.getD i .non) st) env st = bnd (evs C xs env st) fun ds st => C f (permD [] ds) st := by
          show bnd (bnd (evs C xs env st) _) _ = _
          rw [bnd_assoc]
          cases e8 : evs C xs env st with
          | none => rfl
          | some q =>
            obtain ⟨y, s⟩ := q
            cases y with
            | error _ => rfl
            | ok ds =>
              rw [bnd_ok, bnd_ok, evs_nil, bnd_ok, bnd_ok, List.append_nil]
              have l : ds.length = ps.length := by rw [evs_len e8, a3, c2]
              have e9 : ((List.range ps.length).map fun i => ds.getD i .non) = ds := by
                rw [← l]
                refine List.ext_getElem (by simp) fun i h1 h2 => ?_
                rw [List.getElem_map, List.getElem_range, List.getD_eq_getElem?_getD, List.getElem?_eq_getElem h2]
                rfl
              rw [e9]
              rfl
        rw [e7]
        exact h
      · rename_i hkw
        obtain ⟨⟨c1, c2⟩, hB⟩ := if_some hA
        clear hA
        cases hB
        have hkn : kws ≠ [] := fun z => hkw (List.isEmpty_iff.mpr z)
        have hpm := pm_len c1
        have e10 : permD (ps.filterMap fun p => idx (ps.take es.length ++ ks) p) = fun ds => (ps.filterMap fun p => idx (ps.take es.length ++ ks) p).map fun i => ds.getD i .non := by
          funext ds
          cases e11 : (ps.filterMap fun p => idx (ps.take es.length ++ ks) p) with
          | nil =>
            rw [e11] at hpm
            have : ps = [] := List.eq_nil_of_length_eq_zero hpm.symm
            rw [this] at c2
            cases c2
          | cons _ _ => rfl
        rw [ev_call, evs_append, e10]
        exact sE_own (Cf := C f) o P F hg hm hk hd e2 a2 c1 hpm a1 b1 (fun σ st ds st' z => by rw [evs_len z, a3]) (fun σ st ds st' z => by rw [evs_len z, lys]) (fun z => by
          subst z
          have e6 : xs = [] := List.eq_nil_of_length_eq_zero a3
          rw [e6, evs_nil]) (fun z => absurd z hkn)
    · cases hA
  · obtain ⟨hkw, hA2⟩ := if_some hA
    clear hA
    have hkw : kws = [] := List.isEmpty_iff.mp hkw
    subst hkw
    split at hA2
    · rename_i hcl
      split at hA2
      · rename_i xs e1
        obtain ⟨hne, hC⟩ := if_some hA2
        cases hC
        obtain ⟨a1, a2, a3⟩ := ih.as o e1
        cases es with
        | nil => cases hne
        | cons e es =>
          have e3 : ev C (.make f xs) = fun σ st => bnd (evs C xs σ st) fun ds st => bnd (C (mkey f "__init__") (.loc st.length :: ds) (st ++ [.ins f []])) fun d st' => if isNon d = true then ok (.loc st.length) st' else none := by funext σ st; rw [ev]
          rw [e3]
          exact sE_make o hcl hg hd a2 a1
      · cases hA2
    rename_i hnc
    split at hA2
    · split at hA2
      · rename_i p' e1
        obtain ⟨⟨h3, h4⟩, h5⟩ := if_some hA2
        exact ih.gen o e1 (o.free _ (List.contains_iff_mem.mp h3)) hg hd h4 h5
      · cases hA2
    have hB := hA2
    clear hA2
    split at hB
    · rename_i hf
      subst hf
      split at hB
      · rename_i a t q _
        obtain ⟨⟨f1, f2, f3, f4⟩, hC⟩ := if_some hB
        clear hB
        split at hC
        · rename_i x ty e1 e2
          cases hC
          obtain ⟨t1, t2, t3⟩ := tyOf_ok e2
          have hb : PE X (.Name t q) (tC (.ty (tyS ty))) := pe_bltn (o.glo f3) (o.free _ (List.contains_iff_mem.mp f2)) t1 rfl t2 t3
          have e3 : ev C (.isi x ty) = fun σ st => bnd (ev C x σ st) fun a st => isop ty a st := by funext σ st; rw [ev]
          rw [e3]
          refine imE (pe_callB call_isi hg (o.free _ (List.contains_iff_mem.mp f1)) PyProof.Rows.boot_isinstance (pa_cons (ih.e o e1) (pa_cons hb pa_nil (star_of rfl)) (star_of f4)) (by decide) (by decide) (star_of f4) (plain_star (es := [.Name t q]) rfl)) fun σ H Q h => ?_
          obtain ⟨μ, env, st, hs, he, h⟩ := h
          refine ⟨μ, env, st, hs, he, h.bnd.imp fun d st1 μ1 H1 x1 hs1 h1 v rv => ?_⟩
          obtain ⟨s, b, i1, i2, i3⟩ := isi_of hs1 rv h1
          exact ⟨v, .ty (tyS ty), .type s, .type (tyS ty), b, rfl, .ty _, i1, kit_ty i2, i3⟩
        · cases hC
      · cases hB
    · split at hB
      · rename_i xs e1
        obtain ⟨a1, a2, a3⟩ := ih.as o e1
        split at hB
        · rename_i hfr
          obtain ⟨b, e2, rfl⟩ := opt_map hB
          obtain ⟨b1, b2, b3⟩ := biOf_ok e2
          exact sE_bi o hg (o.free _ (List.contains_iff_mem.mp hfr)) b1 b2 hd b3 a2 a1
        · split at hB
          · rename_i id e2
            obtain ⟨hl, hC⟩ := if_some hB
            obtain ⟨b, e3, rfl⟩ := opt_map hC
            exact sE_lib o hg (o.lib f id e2) (libOf_ok e3) hd (by omega) a2 a1
          · cases hB
      · cases hB
end MP

set_option Elab.async false
set_option linter.all false
set_option maxRecDepth 100000
set_option maxHeartbeats 2000000
/-! a generator expression's turns, with the around known -/
namespace MG
open PySem
open Sem (wp)

/-- the tests of a turn -/
def tests (ifs : List Expr) (cenv : Env) : Sem Bool := forIn ifs true fun c r => if r = true then do let ok ← isTrue c cenv (eval c cenv); pure (ForInStep.yield ok) else pure (ForInStep.yield r)
section
variable {prog : Program} {w : World} {A : Around}
/-- the loop's around -/
abbrev inL (A : Around) (e : Expr) (it : Value) (cenv : Env) : Around := A.over (.compLoop e 0 it .none cenv) []
/-- what one turn does: J start i now -/
structure Turns (prog : Program) (w : World) (A : Around) (target : Expr) (it : Value) (ifs : List Expr) (elt : Expr) (cenv : Env) (n : Nat) (pz : Nat → Bool) (F : Nat → Value → Prop) (J : Shared → Nat → Shared → Prop) (Dn : Shared → Shared → Prop) : Prop where
  item : ∀ sa i s, i < n → J sa i s → wpAny (model prog w) A (pyNext it) (fun r s1 => ∃ v, r = some v ∧
    wpAny (model prog w) A (letOwnedTupleGo target it v) (fun _ s2 => wpAny (model prog w) A (assign target cenv v) (fun _ s3 =>
      wpAny (model prog w) A (tests ifs cenv) (fun ok s4 => ok = pz i ∧ (pz i = false → J sa (i + 1) s4) ∧ (pz i = true →
        wpAny (model prog w) A (eval elt cenv) (fun y s5 => F i y ∧ J sa (i + 1) s5) (fun _ _ => False) s4)) (fun _ _ => False) s3) (fun _ _ => False) s2) (fun _ _ => False) s1) (fun _ _ => False) s
  done : ∀ sa s, J sa n s → wpAny (model prog w) A (pyNext it) (fun r s1 => r = none ∧ Dn sa s1) (fun _ _ => False) s
/-- what a yield promises -/
def YP (pz : Nat → Bool) (n : Nat) (F : Nat → Value → Prop) (Y : Shared → Nat → Shared → Prop) (Z : Nat → Shared → Prop) : Protocol := fun m sa v s kap =>
  ∃ i, (passing pz n 0)[(passing pz n 0).length - 1 - m]? = some i ∧ F i v ∧ Y sa (i + 1) s ∧ ∀ s'' : Shared, Z (i + 1) s'' → kap (.send .none) s''
theorem turns_seg {target iter elt : Expr} {ifs : List Expr} {scope : Scope} {pos : Pos} {it : Value} {cenv : Env} {n : Nat} {pz : Nat → Bool} {F : Nat → Value → Prop} {J : Shared → Nat → Shared → Prop} {Dn : Shared → Shared → Prop} {R : GenEnd} {Y : Protocol}
    (T : Turns prog w (inL A (.GeneratorExp elt [⟨target, iter, ifs, 0⟩] scope pos) it cenv) target it ifs elt cenv n pz F J Dn) (hco : cenv.scope.isCoroutine = false)
    (hR : ∀ sa s, Dn sa s → R 0 sa (.ok .next) s)
    (hY : ∀ sa i s y (kap : Resume → Shared → Prop), i < n → pz i = true → F i y → J sa (i + 1) s → (∀ s'' sb, J sb (i + 1) s'' → sb = s'' → kap (.send .none) s'') → Y (passing pz n (i + 1)).length sa y s kap) :
    ∀ (k i : Nat) (sa s : Shared), n - i = k → i ≤ n → J sa i s →
      Seg (model prog w) A R Y (passing pz n i).length sa (.compLoop (.GeneratorExp elt [⟨target, iter, ifs, 0⟩] scope pos) 0 it .none cenv)
        ((model prog w).den (.compLoop (.GeneratorExp elt [⟨target, iter, ifs, 0⟩] scope pos) 0 it .none cenv)) [] s := by
  intro k
  induction k with
  | zero =>
    intro i sa s hk hi hJ
    obtain rfl : i = n := by omega
    show Seg _ A _ _ _ sa _ ((compTurn (.GeneratorExp elt [⟨target, iter, ifs, 0⟩] scope pos) 0 it .none cenv).onRaise (leaving cenv)) [] s
    rw [compTurn_gen, Sem.onRaise_eq_wrap]
    refine seg_bind_wrap (wpAny_standAt ?_)
    refine seg_bind_wrap (wpAny_mono (T.done sa s hJ) (fun r s1 h => ?_) fun _ _ e => e.elim)
    obtain ⟨rfl, h⟩ := h
    refine seg_end (.ok .next) ?_
    rw [passing_end]
    exact hR sa s1 h
  | succ k ih =>
    intro i sa s hk hi hJ
    have hlt : i < n := by omega
    show Seg _ A _ _ _ sa _ ((compTurn (.GeneratorExp elt [⟨target, iter, ifs, 0⟩] scope pos) 0 it .none cenv).onRaise (leaving cenv)) [] s
    rw [compTurn_gen, Sem.onRaise_eq_wrap]
    refine seg_bind_wrap (wpAny_standAt ?_)
    refine seg_bind_wrap (wpAny_mono (T.item sa i s hlt hJ) (fun r s1 h => ?_) fun _ _ e => e.elim)
    obtain ⟨v, rfl, h⟩ := h
    refine seg_bind_wrap (wpAny_mono h (fun _ s2 h => ?_) fun _ _ e => e.elim)
    refine seg_bind_wrap (wpAny_mono h (fun _ s3 h => ?_) fun _ _ e => e.elim)
    refine seg_bind_wrap (wpAny_mono h (fun ok s4 h => ?_) fun _ _ e => e.elim)
    obtain ⟨rfl, h1, h2⟩ := h
    cases hp : pz i with
    | false =>
      rw [passing_false hlt hp]
      simp only [Bool.false_eq_true, if_false]
      exact seg_again rfl (ih (i + 1) sa _ (by omega) hlt (h1 hp))
    | true =>
      rw [passing_true hlt hp, List.length_cons]
      simp only [if_true]
      have hy : ∀ v, yieldOut cenv v = yieldValue v := fun v => by simp only [yieldOut, hco, Bool.false_eq_true, if_false]
      simp only [hy]
      rw [Sem.bind_eq_wrap', Sem.bind_eq_wrap', Sem.wrap_wrap, Sem.wrap_wrap]
      refine seg_wrap (wpAny_mono (h2 hp) (fun y s5 h => ?_) fun _ _ e => e.elim)
      obtain ⟨hF, h5⟩ := h
      refine seg_at (seg_yield rfl rfl rfl ?_)
      refine hY sa i s5 y _ hlt hp hF h5 fun s'' sb hs e => ?_
      subst e
      exact seg_again rfl (ih (i + 1) sb sb (by omega) hlt hs)
end
end MG

set_option Elab.async false
set_option linter.all false
set_option maxRecDepth 100000
set_option maxHeartbeats 2000000
namespace MG
open PySem
open Sem (wp)
section
variable {prog : Program} {w : World} {A : Around}
/-- ahead of turn i: since sa only C and wr changed; the walk stands at i; what href held is kept -/
def JJ (C : Addr) (fp wr : List Addr) (href : Heap) (St : Nat → Heap → Prop) (sa : Shared) (i : Nat) (s : Shared) : Prop :=
  GenSince C wr sa s ∧ St i s.heap ∧ (∃ m, s.heap.Ns C m) ∧ ∀ b ∈ fp, b ∉ wr → ∀ o, href.get? b = some o → s.heap.get? b = some o
theorem turns_fresh {target iter elt : Expr} {ifs : List Expr} {scope : Scope} {pos : Pos} {it : Value} {cenv : Env} {n g : Nat} {a : Addr} {pz : Nat → Bool} {F : Nat → Value → Prop} {fp wr : List Addr} {St : Nat → Heap → Prop} {s : Shared}
    (fr : ∀ i h h', St i h → (∀ b ∈ fp, ∀ o, h.get? b = some o → h'.get? b = some o) → St i h') (hC : cenv.locals ∉ fp)
    (self : ∀ (A' : Around) (s : Shared) (Q : Value → Shared → Prop), A'.handled = none → St 0 s.heap → Q it s → wpAny (model prog w) A' (pyIter it) Q (fun _ _ => False) s)
    (T : Turns prog w (inL A.in1 (.GeneratorExp elt [⟨target, iter, ifs, 0⟩] scope pos) it cenv) target it ifs elt cenv n pz F (JJ cenv.locals fp wr s.heap St) (GenSince cenv.locals wr)) (hco : cenv.scope.isCoroutine = false) (hh : A.handled = none)
    (hg : s.heap.IsGen a g) (hgs : s.gens[g]? = some (.fresh (.compStart (.GeneratorExp elt [⟨target, iter, ifs, 0⟩] scope pos) 0 it .none cenv)))
    (hst : St 0 s.heap) (hn : ∃ m, s.heap.Ns cenv.locals m) (hl : s.heap.NoLimit) : GenAt prog w A a g cenv.locals fp wr pz n F 0 s := by
  refine ⟨hg, hl, _, hgs, fun s2 hal => ⟨rfl, ?_⟩⟩
  have at2 : ∀ (sx sy : Shared) (i : Nat), JJ cenv.locals fp wr s.heap St sx i sy → ∀ sz : Shared, (∀ b ∈ cenv.locals :: fp, ∀ o, sy.heap.get? b = some o → sz.heap.get? b = some o) → JJ cenv.locals fp wr s.heap St sz i sz := by
    rintro sx sy i ⟨_, j2, ⟨m, j3⟩, j4⟩ sz hk
    exact ⟨GenSince.refl _ _ _, fr i _ _ j2 fun b hb o e => hk b (List.mem_cons_of_mem _ hb) o e, ⟨m, j3.at' fun o e => hk _ List.mem_cons_self o e⟩, fun b hb hw o e => hk b (List.mem_cons_of_mem _ hb) o (j4 b hb hw o e)⟩
  have j0 : JJ cenv.locals fp wr s.heap St s2 0 s2 := at2 s s 0 ⟨GenSince.refl _ _ _, hst, hn, fun _ _ _ _ e => e⟩ s2 hal
  have loop := turns_seg (prog := prog) (w := w) (A := A.in1) (iter := iter) (scope := scope) (pos := pos) (R := fun n s₀ r s₁ => r = .ok .next ∧ (n = 0 ∧ GenSince cenv.locals wr s₀ s₁)) (Y := genProto cenv.locals fp wr pz n F) T hco
    (fun sa sz h => ⟨rfl, rfl, h⟩) (fun sa i sz y kap hi hp hF hJ hk => ⟨⟨i, passing_here hi hp, hF⟩, hJ.1, fun sq hq => hk sq sq (at2 sa sz (i + 1) hJ sq hq) rfl⟩) n 0 s2 s2 (Nat.sub_zero _) (Nat.zero_le _) j0
  rw [Nat.sub_zero]
  show Seg _ A.in1 _ _ _ s2 _ ((compStart (.GeneratorExp elt [⟨target, iter, ifs, 0⟩] scope pos) 0 it .none cenv).onRaise (leaving cenv)) [] s2
  unfold compStart
  rw [Sem.onRaise_eq_wrap]
  show Seg _ A.in1 _ _ _ s2 _ ((ask >>= _).wrap _ _ _ _) [] s2
  refine seg_bind_wrap (wpAny_askSetting ?_)
  split
  · exact seg_again rfl loop
  · first
      | exact seg_bind_wrap (wpAny_rule (seg_bind_wrap (wpAny_standAt (seg_bind_wrap (wpAny_mono (self _ _ _ hh j0.2.1 (seg_again rfl loop)) (fun _ _ h => h) fun _ _ e => e.elim)))))
      | (refine seg_bind_wrap (wpAny_rule ?_)
         show Seg _ A.in1 _ _ _ s2 _ ((standAt iter.pos >>= _).wrap _ _ _ _) [] s2
         exact seg_bind_wrap (wpAny_standAt (seg_bind_wrap (wpAny_mono (self _ _ _ hh j0.2.1 (seg_again rfl loop)) (fun _ _ h => h) fun _ _ e => e.elim))))
end
end MG

set_option Elab.async false
set_option linter.all false
set_option maxRecDepth 100000
set_option maxHeartbeats 2000000
/-! a generator that is walked by a built-in: the generators stay bare, the world's os stays -/
namespace MG
open PySem PyProof.Rows
open Sem (wp)
section
variable {prog : Program} {w : World} {A : Around}
/-- a yield's promise; behind it the generators are bare, os as it was -/
def prB (C : Addr) (fp wr : List Addr) (pz : Nat → Bool) (n : Nat) (F : Nat → Value → Prop) (oo : OsState) : Protocol := fun m sa v s kap =>
  (∃ i, (passing pz n 0)[(passing pz n 0).length - 1 - m]? = some i ∧ F i v) ∧ GenSince C wr sa s ∧
    ∀ z : Shared, (∀ b ∈ C :: fp, ∀ o, s.heap.get? b = some o → z.heap.get? b = some o) → AllBare z.gens → z.os = oo → kap (.send .none) z
def endB (C : Addr) (wr : List Addr) : GenEnd := fun n sa r s => r = .ok .next ∧ (n = 0 ∧ GenSince C wr sa s)
/-- the generator a ahead of its j-th item -/
structure GenB (prog : Program) (w : World) (A : Around) (a : Addr) (g : Nat) (C : Addr) (fp wr : List Addr) (pz : Nat → Bool) (n : Nat) (F : Nat → Value → Prop) (oo : OsState) (j : Nat) (s : Shared) : Prop where
  gen : s.heap.IsGen a g
  lim : s.heap.NoLimit
  bare : AllBare s.gens
  os : s.os = oo
  goes : ∃ gs, s.gens[g]? = some gs ∧ ∀ z : Shared, (∀ b ∈ C :: fp, ∀ o, s.heap.get? b = some o → z.heap.get? b = some o) → AllBare z.gens → z.os = oo →
    gs.Goes (model prog w) A.in1 (endB C wr) (prB C fp wr pz n F oo) ((passing pz n 0).length - j) (.send .none) z
theorem bare_set {s : Shared} {g : Nat} {x : GenState} (h : AllBare s.gens) (hx : x.bare = true) : AllBare (s.setGen g x).gens := by
  intro y hy
  have hy : y ∈ s.gens.setIfInBounds g x := hy
  rcases Array.mem_or_eq_of_mem_setIfInBounds hy with q | q
  · exact h y q
  · rw [q]; exact hx
theorem walkB (hh : A.handled = none) {a : Addr} {g : Nat} {C : Addr} {fp wr : List Addr} {pz : Nat → Bool} {n : Nat} {F : Nat → Value → Prop} {oo : OsState} (aC : a ≠ C) (af : a ∉ fp) (sub : ∀ b ∈ wr, b ∈ fp)
    (room : A.depth < recursionLimit) (cs : cStatics ∈ fp) (cC : cStatics ≠ C) (cw : cStatics ∉ wr) :
    WalksS prog w A a (a :: C :: fp) (C :: wr) (GenOnlyQ g) (passing pz n 0).length (fun j y => ∃ i, (passing pz n 0)[j]? = some i ∧ F i y) (GenB prog w A a g C fp wr pz n F oo) where
  sub := fun b hb => by
    cases hb with
    | head => exact List.mem_cons_of_mem _ List.mem_cons_self
    | tail _ hb => exact List.mem_cons_of_mem _ (List.mem_cons_of_mem _ (sub b hb))
  grefl := fun _ => .inl rfl
  gtrans := fun _ _ _ p q => p.trans q
  frame := fun j s h2 tk st _ hk => by
    obtain ⟨⟨o, nm, qn, ho, r⟩, ⟨mc, hns, hnn⟩, hb, hos, gs, hgs, hgo⟩ := st
    exact ⟨⟨o, nm, qn, hk a List.mem_cons_self o ho, r⟩, ⟨mc, hns.at' fun o e => hk _ (List.mem_cons_of_mem _ (List.mem_cons_of_mem _ cs)) o e, hnn⟩, hb, hos, gs, hgs,
      fun z hz => hgo z fun b hb o e => hz b hb o (hk b (List.mem_cons_of_mem _ hb) o e)⟩
  item := fun j s Q E hj st hQ => by
    obtain ⟨hg, hl, hb, hos, gs, hgs, hgo⟩ := st
    obtain ⟨m, hm⟩ : ∃ m, (passing pz n 0).length - j = m + 1 := ⟨(passing pz n 0).length - j - 1, by omega⟩
    rw [hm] at hgo
    have aw : a ∉ wr := fun z => af (sub a z)
    refine wpAny_with_toks (Nat.le_refl s.toks) ?_
    refine wpAny_pyNext_genexpQ (P := fun n sa s1 => n = 0 ∧ GenSince C wr sa s1) (Y := prB C fp wr pz n F oo) hh hl room hg hgs (hgo _ (fun _ _ _ e => e) (bare_set hb rfl) hos) (fun v s1 gs2 b2 hv => ?_) (fun s1 hp h2 hk => ?_)
    · obtain ⟨⟨i, hi, hF⟩, ⟨h1, t1, rfl, k1⟩, hkap⟩ := hv
      have hx : (passing pz n 0).length - 1 - (m + 1 - 1) = j := by omega
      rw [hx] at hi
      intro htk
      have self2 := setGen_self (x := gs2) (gs := .running) (setGen_self (x := .running) hgs)
      refine hQ v _ ⟨i, hi, hF⟩ ⟨?_, ?_, bare_set (bare_set hb rfl) b2, hos, gs2, self2, fun z hz zb zo => ?_⟩ ⟨fun b o nb e => k1 b o (fun q => nb (q ▸ List.mem_cons_self)) (fun q => nb (List.mem_cons_of_mem _ q)) e, ?_, rfl, rfl, htk⟩
      · obtain ⟨o, nm, qn, ho, r⟩ := hg
        exact ⟨o, nm, qn, k1 a o aC aw ho, r⟩
      · obtain ⟨mc, hns, hnn⟩ := hl
        exact ⟨mc, hns.at' fun o e => k1 _ o cC cw e, hnn⟩
      · rw [show (passing pz n 0).length - (j + 1) = m by omega]
        exact hkap z hz zb zo
      · exact GenOnlyQ.of ((GenOnly.setGen s g .running).trans (GenOnly.setGen _ g gs2)) self2 b2
    · exact absurd hp.1 (Nat.succ_ne_zero m)
  done := fun s Q E st hQ => by
    obtain ⟨hg, hl, hb, hos, gs, hgs, hgo⟩ := st
    rw [Nat.sub_self] at hgo
    refine wpAny_with_toks (Nat.le_refl s.toks) ?_
    refine wpAny_pyNext_genexpQ (P := fun n sa s1 => n = 0 ∧ GenSince C wr sa s1) (Y := prB C fp wr pz n F oo) hh hl room hg hgs (hgo _ (fun _ _ _ e => e) (bare_set hb rfl) hos) (fun v s1 gs2 b2 hv => ?_) (fun s1 hp h2 hk => ?_)
    · exact (hv.2.2 { s1 with gens := #[], os := oo } (fun _ _ _ e => e) (fun y hy => absurd hy (by simp)) rfl).elim
    · obtain ⟨_, h1, t1, rfl, k1⟩ := hp
      intro htk
      exact hQ _ ⟨fun b o nb e => hk b o (k1 b o (fun q => nb (q ▸ List.mem_cons_self)) (fun q => nb (List.mem_cons_of_mem _ q)) e), GenOnlyQ.of ((GenOnly.setGen s g .running).trans (GenOnly.setGen _ g .finished)) (setGen_self (gs := .running) (setGen_self hgs)) rfl, rfl, rfl, htk⟩
  self := fun _ _ _ _ st hQ => wpAny_pyIter_gen st.gen hQ
end
end MG

set_option Elab.async false
set_option linter.all false
set_option maxRecDepth 100000
set_option maxHeartbeats 2000000
/-! a fresh generator; the expression that makes it -/
namespace MG
open PySem PyProof.Rows
open Sem (wp)
section
variable {prog : Program} {w : World} {A : Around}
/-- a state that follows: what C and fp hold is kept, bare, os -/
structure Next (C : Addr) (fp : List Addr) (oo : OsState) (s z : Shared) : Prop where
  heap : ∀ b ∈ C :: fp, ∀ o, s.heap.get? b = some o → z.heap.get? b = some o
  bare : AllBare z.gens
  os : z.os = oo
theorem freshB {target iter elt : Expr} {ifs : List Expr} {scope : Scope} {pos : Pos} {it : Value} {cenv : Env} {n g : Nat} {a : Addr} {pz : Nat → Bool} {F : Nat → Value → Prop} {fp wr : List Addr} {oo : OsState} {s : Shared} (J : Shared → Nat → Shared → Prop)
    (since : ∀ sa i z, J sa i z → GenSince cenv.locals wr sa z) (move : ∀ sa i z y, J sa i z → Next cenv.locals fp oo z y → J y i y) (j0 : ∀ z, Next cenv.locals fp oo s z → J z 0 z)
    (self : ∀ (A' : Around) (sa z : Shared) (Q : Value → Shared → Prop), J sa 0 z → Q it z → wpAny (model prog w) A' (pyIter it) Q (fun _ _ => False) z)
    (T : Turns prog w (inL A.in1 (.GeneratorExp elt [⟨target, iter, ifs, 0⟩] scope pos) it cenv) target it ifs elt cenv n pz F J (GenSince cenv.locals wr)) (hco : cenv.scope.isCoroutine = false)
    (hg : s.heap.IsGen a g) (hgs : s.gens[g]? = some (.fresh (.compStart (.GeneratorExp elt [⟨target, iter, ifs, 0⟩] scope pos) 0 it .none cenv))) (hl : s.heap.NoLimit) (hb : AllBare s.gens) (ho : s.os = oo) :
    GenB prog w A a g cenv.locals fp wr pz n F oo 0 s := by
  refine ⟨hg, hl, hb, ho, _, hgs, fun z zh zb zo => ⟨rfl, ?_⟩⟩
  have hj : J z 0 z := j0 z ⟨zh, zb, zo⟩
  have loop := turns_seg (prog := prog) (w := w) (A := A.in1) (iter := iter) (scope := scope) (pos := pos) (R := endB cenv.locals wr) (Y := prB cenv.locals fp wr pz n F oo) T hco
    (fun sa y h => ⟨rfl, rfl, h⟩) (fun sa i y v kap hi hp hF hJ hk => ⟨⟨i, passing_here hi hp, hF⟩, since _ _ _ hJ, fun q qh qb qo => hk q q (move _ _ _ _ hJ ⟨qh, qb, qo⟩) rfl⟩) n 0 z z (Nat.sub_zero _) (Nat.zero_le _) hj
  rw [Nat.sub_zero]
  show Seg _ A.in1 _ _ _ z _ ((compStart (.GeneratorExp elt [⟨target, iter, ifs, 0⟩] scope pos) 0 it .none cenv).onRaise (leaving cenv)) [] z
  unfold compStart
  rw [Sem.onRaise_eq_wrap]
  show Seg _ A.in1 _ _ _ z _ ((ask >>= _).wrap _ _ _ _) [] z
  refine seg_bind_wrap (wpAny_askSetting ?_)
  split
  · exact seg_again rfl loop
  · first
      | exact seg_bind_wrap (wpAny_rule (seg_bind_wrap (wpAny_standAt (seg_bind_wrap (wpAny_mono (self _ z z _ hj (seg_again rfl loop)) (fun _ _ h => h) fun _ _ e => e.elim)))))
      | (refine seg_bind_wrap (wpAny_rule ?_)
         show Seg _ A.in1 _ _ _ z _ ((standAt iter.pos >>= _).wrap _ _ _ _) [] z
         exact seg_bind_wrap (wpAny_standAt (seg_bind_wrap (wpAny_mono (self _ z z _ hj (seg_again rfl loop)) (fun _ _ h => h) fun _ _ e => e.elim))))
end
end MG

set_option Elab.async false
set_option linter.all false
set_option maxRecDepth 100000
set_option maxHeartbeats 2000000
/-! the generator's frame as a context -/
namespace MG
open PySem PySem.Spec PyProof.Rows L2
/-- the context of a generator's frame: made in the state s with the abstract heap H, its walk's objects fp -/
def cxG (X : Cx) (A : Around) (N : List Str) (s : Shared) (H : Hp) (env : Env) (fp : List Addr) (xe : Value → Shared → Prop) : Cx :=
  { prog := X.prog, w := X.w, K := X.K, mg := X.mg, base := X.base, A := A, N := N, s_0 := s, H_0 := H, env := env, outer := X.stack, stack := env :: X.stack, ex := fp, fn := fun _ => false, calm := true, pn := [], xe := xe }
structure GEnv (X : Cx) (s : Shared) (env : Env) : Prop where
  kind : env.scope.kind = .function
  glob : env.globals = X.env.globals
  blt : env.builtins = builtinsNs
  loc : env.locals = s.heap.objs.size
  frame : env.frame = some env.locals
  cells : ∀ x c, env.cells.lookup x = some c → X.env.cells.lookup x = some c
  nocell : ∀ x, env.kindOf x ≠ some .cell
  has : ∀ x, env.kindOf x = some .free → ∃ c, env.cells.lookup x = some c
theorem inv_gen {X : Cx} {pins : List (Addr × Obj)} {σ τ : L2.St} {H : Hp} {s z : Shared} {A : Around} {N : List Str} {env : Env} {fp : List Addr} {xe : Value → Shared → Prop} {m : Str → Option Value}
    (I : Inv X pins σ H s) (hfp : ∀ b ∈ fp, FpOk X pins H b) (lt : ∀ b ∈ fp, b < s.heap.objs.size) (G : GEnv X s env) (hA : A.handled = none) (fr : A.frames = some (env :: X.stack))
    (hk : ∀ b o, b ∉ fp → s.heap.get? b = some o → z.heap.get? b = some o) (hn : z.heap.Ns env.locals m) (hb : AllBare z.gens) (ho : z.os = s.os)
    (hloc : ∀ (i : Nat) (x : Str) (v : V), N[i]? = some x → τ[i]? = some (some v) → Vis env.scope x → ∃ u, RelV v u ∧ Look env z.heap m x u) (hl : τ.length = N.length) :
    Inv (cxG X A N s H env fp xe) [] τ H z := by
  have fpb : ∀ b o, X.base.get? b = some o → b ∉ fp := fun b o e hb => by
    obtain ⟨_, _, _, h4, _, _⟩ := hfp b hb
    rcases h4 with h4 | h4
    · exact I.ok.noex b o e h4
    · exact Nat.lt_irrefl _ (Nat.lt_of_lt_of_le (Nat.lt_of_lt_of_le (Heap.lt_size e) I.ok.bsz) h4)
  have fpc : ∀ x c, X.env.cells.lookup x = some c → c ∉ fp := fun x c e hb => (hfp c hb).2.2.2.2.1 x c e rfl
  refine ⟨⟨I.ok.mod, G.kind, G.glob.trans I.ok.glob, G.blt, Nat.le_of_eq G.loc.symm, fun x y c h1 h2 => I.ok.inj x y c (G.cells x c h1) (G.cells y c h2), fun x h => ?_, fun x c h _ => absurd h (by simp [cxG]), fun _ => hA, fr, .inr ⟨rfl, G.frame⟩, fun b hb => ⟨?_, fun x c h e => ?_⟩,
    fun b o e => I.bs b o e, ?_, fun b o e => fpb b o e, fun b hb => ?_, I.stack, I.stkFree⟩, ho, hb, ?_, ⟨m, hn, hloc⟩, fun x c h => ?_, ?_, fun x c h => I.freeC x c (G.cells x c h), fun p hp => absurd hp (by simp [cxG]), fun b o e => ?_, hl⟩
  · rcases h with h | h
    · exact (G.nocell x h).elim
    · exact G.has x h
  · intro e
    have e : b = env.locals := e
    have := lt b hb
    rw [e, G.loc] at this
    exact Nat.lt_irrefl _ this
  · have e : c = b := e
    subst e
    exact fpc x c (G.cells x c h) hb
  · exact Nat.le_trans I.ok.bsz I.sz
  · intro hx
    have q := hfp b hb
    rcases List.mem_cons.mp (I.stkSub b hx) with e | e
    · exact q.2.1 e
    · exact q.2.2.1 e
  · exact ⟨fun b o e n _ hx => hk b o hx e, fun b o e n _ hx => ⟨o.slots, hk b o hx e⟩, fun b o e n _ => n, fun b o e hx => ⟨o, hk b o hx e⟩, fun _ _ e => e, fun _ _ _ e => e, fun b ps e => ⟨#[], by have e2 : H b = some (.tbl ps) := e; simpa using e2⟩⟩
  · have c' := G.cells x c h
    obtain ⟨v, o, q1, q2⟩ := I.cell x c c'
    exact ⟨v, o, hk c o (fpc x c c') q1, q2⟩
  · show H env.locals = none
    cases e : H env.locals with
    | none => rfl
    | some o =>
      have := (I.hok _ _ e).lt
      rw [G.loc] at this
      exact (Nat.lt_irrefl _ this).elim
  · refine (I.hok b o e).stay (fun d v hd q => hk d v ?_ q) (fun d q => q) fun d xs q => q
    intro hx
    have := (hfp d hx).1
    rcases hd with rfl | hd
    · rw [e] at this; cases this
    · rw [hd] at this; cases this
end MG

set_option Elab.async false
set_option linter.all false
set_option maxRecDepth 100000
set_option maxHeartbeats 2000000
/-! walks whose states are told by what holds in them -/
namespace MG
open PySem PyProof.Rows
open Sem (wp)
/-- all of s's heap but S is kept; S is there, no cell -/
structure Grows (S : Option Addr) (s z : Shared) : Prop where
  heap : ∀ b o, S ≠ some b → s.heap.get? b = some o → z.heap.get? b = some o
  bare : AllBare z.gens
  os : z.os = s.os
  own : ∀ b, S = some b → ∃ o, z.heap.get? b = some o ∧ ∀ v, o.data ≠ .cell v
  gens : s.gens.size ≤ z.gens.size
/-- S is kept -/
def Young (S : Option Addr) (s z : Shared) : Prop := ∀ b o, S = some b → (∀ v, o.data ≠ .cell v) → s.heap.get? b = some o → z.heap.get? b = some o
def Own (S : Option Addr) (s : Shared) : Prop := ∀ b, S = some b → ∃ o, s.heap.get? b = some o ∧ ∀ v, o.data ≠ .cell v
structure WalkI (prog : Program) (w : World) (A : Around) (S : Option Addr) (I : Addr) (n : Nat) (P : Nat → Value → Prop) (St : Nat → Shared → Prop) (Dn En : Shared → Prop) : Prop where
  item : ∀ i s, i < n → St i s → Own S s → wpAny (model prog w) A (pyNext (.ref I)) (fun r z => ∃ v, r = some v ∧ P i v ∧ St (i + 1) z ∧ Young S s z ∧ En z) (fun _ _ => False) s
  done : ∀ s, St n s → Own S s → wpAny (model prog w) A (pyNext (.ref I)) (fun r z => r = none ∧ Dn z ∧ Young S s z) (fun _ _ => False) s
  more : ∀ i (s : Shared) h' tk, St i s → (∀ b o, S ≠ some b → s.heap.get? b = some o → h'.get? b = some o) → St i { s with heap := h', toks := tk }
  self : ∀ i s (Q : Value → Shared → Prop) (E : Value → Shared → Prop), St i s → Q (.ref I) s → wpAny (model prog w) A (pyIter (.ref I)) Q E s
section
variable {prog : Program} {w : World} {A : Around}
/-- what must hold where the generator a yields -/
structure Stands (S : Option Addr) (a : Addr) (g : Nat) (s : Shared) : Prop where
  gen : s.heap.IsGen a g
  lim : s.heap.NoLimit
  bare : AllBare s.gens
  there : ∃ x, s.gens[g]? = some x
  ne : S ≠ some a
  cs : S ≠ some cStatics
def prI (S : Option Addr) (a : Addr) (g : Nat) (pz : Nat → Bool) (n : Nat) (F : Nat → Value → Prop) (En : Shared → Prop) : Protocol := fun m sa v s kap =>
  (∃ i, (passing pz n 0)[(passing pz n 0).length - 1 - m]? = some i ∧ F i v) ∧ (Stands S a g s ∧ Young S sa s ∧ En s) ∧ ∀ z : Shared, Grows S s z → kap (.send .none) z
def endI (S : Option Addr) (a : Addr) (g : Nat) (Dn : Shared → Prop) : GenEnd := fun n sa r s => r = .ok .next ∧ (n = 0 ∧ Young S sa s ∧ ∀ z : Shared, (∀ b o, s.heap.get? b = some o → z.heap.get? b = some o) → z.gens = (s.setGen g .finished).gens → z.os = s.os → Dn z)
structure GenI (prog : Program) (w : World) (A : Around) (S : Option Addr) (a : Addr) (g : Nat) (pz : Nat → Bool) (n : Nat) (F : Nat → Value → Prop) (Dn En : Shared → Prop) (j : Nat) (s : Shared) : Prop where
  st : Stands S a g s
  goes : ∃ gs, s.gens[g]? = some gs ∧ ∀ z : Shared, Grows S s z → gs.Goes (model prog w) A.in1 (endI S a g Dn) (prI S a g pz n F En) ((passing pz n 0).length - j) (.send .none) z
theorem walkI (hh : A.handled = none) (room : A.depth < recursionLimit) {S : Option Addr} {a : Addr} {g : Nat} {pz : Nat → Bool} {n : Nat} {F : Nat → Value → Prop} {Dn En : Shared → Prop} (enS : ∀ z y : Shared, En z → y.heap = z.heap → y.os = z.os → AllBare y.gens → En y) :
    WalkI prog w A S a (passing pz n 0).length (fun j y => ∃ i, (passing pz n 0)[j]? = some i ∧ F i y) (GenI prog w A S a g pz n F Dn En) Dn En where
  item := fun j s hj st ow => by
    obtain ⟨⟨hg, hl, hb, _, hne, hcs⟩, gs, hgs, hgo⟩ := st
    obtain ⟨m, hm⟩ : ∃ m, (passing pz n 0).length - j = m + 1 := ⟨(passing pz n 0).length - j - 1, by omega⟩
    rw [hm] at hgo
    refine wpAny_pyNext_genexpQ (P := fun n sa s => n = 0 ∧ Young S sa s ∧ ∀ z : Shared, (∀ b o, s.heap.get? b = some o → z.heap.get? b = some o) → z.gens = (s.setGen g .finished).gens → z.os = s.os → Dn z) (Y := prI S a g pz n F En) hh hl room hg hgs (hgo _ ⟨fun _ _ _ e => e, bare_set hb rfl, rfl, ow, by simp [Shared.setGen]⟩) (fun v s1 gs2 b2 hv => ?_) (fun s1 hp h2 hk => ?_)
    · obtain ⟨⟨i, hi, hF⟩, ⟨⟨k1, k2, k3, ⟨x, k4⟩, k5, k6⟩, ky, ke⟩, hkap⟩ := hv
      rw [show (passing pz n 0).length - 1 - (m + 1 - 1) = j by omega] at hi
      refine ⟨v, rfl, ⟨i, hi, hF⟩, ⟨⟨k1, k2, bare_set k3 b2, ⟨gs2, setGen_self k4⟩, k5, k6⟩, gs2, setGen_self k4, fun z hz => ?_⟩, ky, enS s1 _ ke rfl rfl (bare_set k3 b2)⟩
      rw [show (passing pz n 0).length - (j + 1) = m by omega]
      exact hkap z ⟨hz.heap, hz.bare, hz.os, hz.own, Nat.le_trans (by simp [Shared.setGen]) hz.gens⟩
    · exact absurd hp.1 (Nat.succ_ne_zero m)
  done := fun s st ow => by
    obtain ⟨⟨hg, hl, hb, _, hne, hcs⟩, gs, hgs, hgo⟩ := st
    rw [Nat.sub_self] at hgo
    refine wpAny_pyNext_genexpQ (P := fun n sa s => n = 0 ∧ Young S sa s ∧ ∀ z : Shared, (∀ b o, s.heap.get? b = some o → z.heap.get? b = some o) → z.gens = (s.setGen g .finished).gens → z.os = s.os → Dn z) (Y := prI S a g pz n F En) hh hl room hg hgs (hgo _ ⟨fun _ _ _ e => e, bare_set hb rfl, rfl, ow, by simp [Shared.setGen]⟩) (fun v s1 gs2 b2 hv => ?_) (fun s1 hp h2 hk => ?_)
    · exact (hv.2.2 s1 ⟨fun _ _ _ e => e, hv.2.1.1.bare, rfl, fun b e => by
        obtain ⟨o, ho, hc⟩ := ow b e
        exact ⟨o, hv.2.1.2.1 b o e hc ho, hc⟩, Nat.le_refl _⟩).elim
    · exact ⟨rfl, hp.2.2 _ hk rfl rfl, fun b o eq nc e => hk b o (hp.2.1 b o eq nc e)⟩
  more := fun j s h2 tk st hk => by
    obtain ⟨⟨⟨o, nm, qn, ho, r⟩, ⟨mc, hns, hnn⟩, hb, ht, hne, hcs⟩, gs, hgs, hgo⟩ := st
    exact ⟨⟨⟨o, nm, qn, hk a o hne ho, r⟩, ⟨mc, hns.at' fun o e => hk _ o hcs e, hnn⟩, hb, ht, hne, hcs⟩, gs, hgs, fun z hz => hgo z ⟨fun b o le e => hz.heap b o le (hk b o le e), hz.bare, hz.os, hz.own, hz.gens⟩⟩
  self := fun _ _ _ _ st hQ => wpAny_pyIter_gen st.st.gen hQ
end
end MG

set_option Elab.async false
set_option linter.all false
set_option maxRecDepth 100000
set_option maxHeartbeats 2000000
/-! all and any over such a walk -/
namespace MG
open PySem PyProof.Rows
open Sem (wp)
section
variable {prog : Program} {w : World} {A : Around} {R : Result → Shared → Prop} {I : Addr} {n : Nat} {P : Nat → Value → Prop} {St : Nat → Shared → Prop} {Dn En : Shared → Prop}
/-- the truth from place i on -/
def allFrom (tr : Nat → Bool) : Nat → Nat → Bool
  | 0, _ => true
  | k + 1, i => tr i && allFrom tr k (i + 1)
def anyFrom (tr : Nat → Bool) : Nat → Nat → Bool
  | 0, _ => false
  | k + 1, i => tr i || anyFrom tr k (i + 1)
theorem own_none (s : Shared) : Own none s := fun _ e => nomatch e
theorem allI (W : WalkI prog w A.in1 none I n P St Dn En) (tr : Nat → Bool) (htr : ∀ i v, P i v → v = .bool (tr i)) : ∀ (k i : Nat) (s : Shared), i + k = n → St i s →
    (∀ z, (Dn z ∨ En z) → R (.ok (.ret (.bool (allFrom tr k i)))) z) → codeAny (model prog w) A (.builtin "all.loop" ⟨[.ref I], []⟩) R s
  | 0, i, s, hk, hst, hR => by
    obtain rfl : i = n := hk
    refine codeAny_builtin F.entry_all_loop ?_
    rw [Around.under_plainId F.plain_all_loop _]
    refine wpAny_bind (m := pyNext (.ref I)) (wpAny_mono (W.done s hst (own_none s)) (fun r z h => ?_) fun _ _ e => e.elim)
    obtain ⟨rfl, h, _⟩ := h
    exact wpAny_bind (wpAny_rule (wpAny_pure (hR z (.inl h))))
  | k + 1, i, s, hk, hst, hR => by
    refine codeAny_builtin F.entry_all_loop ?_
    rw [Around.under_plainId F.plain_all_loop _]
    refine wpAny_bind (m := pyNext (.ref I)) (wpAny_mono (W.item i s (by omega) hst (own_none s)) (fun r z h => ?_) fun _ _ e => e.elim)
    obtain ⟨v, rfl, hP, hz, _, he⟩ := h
    obtain rfl := htr i v hP
    refine wpAny_bind (wpAny_holding (wpAny_truthy_bool (wpAny_bind (wpAny_letGo ?_))))
    cases hb : tr i with
    | true =>
      simp only [if_true]
      refine wpAny_pure ⟨plainId_quiet F.plain_all_loop _, allI W tr htr k (i + 1) z (by omega) hz fun y hy => ?_⟩
      have q := hR y hy
      rwa [allFrom, hb, Bool.true_and] at q
    | false =>
      simp only [Bool.false_eq_true, if_false]
      have q := hR z (.inr he)
      rw [allFrom, hb, Bool.false_and] at q
      exact wpAny_bind (wpAny_rule (wpAny_pure q))
theorem anyI (W : WalkI prog w A.in1 none I n P St Dn En) (tr : Nat → Bool) (htr : ∀ i v, P i v → v = .bool (tr i)) : ∀ (k i : Nat) (s : Shared), i + k = n → St i s →
    (∀ z, (Dn z ∨ En z) → R (.ok (.ret (.bool (anyFrom tr k i)))) z) → codeAny (model prog w) A (.builtin "any.loop" ⟨[.ref I], []⟩) R s
  | 0, i, s, hk, hst, hR => by
    obtain rfl : i = n := hk
    refine codeAny_builtin F.entry_any_loop ?_
    rw [Around.under_plainId F.plain_any_loop _]
    refine wpAny_bind (m := pyNext (.ref I)) (wpAny_mono (W.done s hst (own_none s)) (fun r z h => ?_) fun _ _ e => e.elim)
    obtain ⟨rfl, h, _⟩ := h
    exact wpAny_bind (wpAny_rule (wpAny_pure (hR z (.inl h))))
  | k + 1, i, s, hk, hst, hR => by
    refine codeAny_builtin F.entry_any_loop ?_
    rw [Around.under_plainId F.plain_any_loop _]
    refine wpAny_bind (m := pyNext (.ref I)) (wpAny_mono (W.item i s (by omega) hst (own_none s)) (fun r z h => ?_) fun _ _ e => e.elim)
    obtain ⟨v, rfl, hP, hz, _, he⟩ := h
    obtain rfl := htr i v hP
    refine wpAny_bind (wpAny_holding (wpAny_truthy_bool (wpAny_bind (wpAny_letGo ?_))))
    cases hb : tr i with
    | false =>
      simp only [Bool.false_eq_true, if_false]
      refine wpAny_pure ⟨plainId_quiet F.plain_any_loop _, anyI W tr htr k (i + 1) z (by omega) hz fun y hy => ?_⟩
      have q := hR y hy
      rwa [anyFrom, hb, Bool.false_or] at q
    | true =>
      simp only [if_true]
      have q := hR z (.inr he)
      rw [anyFrom, hb, Bool.true_or] at q
      exact wpAny_bind (wpAny_rule (wpAny_pure q))
variable {E : Value → Shared → Prop} {s : Shared}
theorem call_allI {x : Value} {Q : Value → Shared → Prop} (h : wpAny (model prog w) A.in1 (pyIter x) (fun it z => ∃ I n P St Dn En tr, it = .ref I ∧ WalkI prog w A.in1 none I n P St Dn En ∧ St 0 z ∧ (∀ i v, P i v → v = .bool (tr i)) ∧ ∀ y, (Dn y ∨ En y) → Q (.bool (allFrom tr n 0)) y) E s) :
    wpAny (model prog w) A (call (.builtin "all") [x]) Q E s := by
  refine call_function_tree F.kind_all F.plain_all F.entry_all (F.args_all1 _) ?_
  unfold Builtin.«all»
  refine wpAny_bind (m := oneArg "all" _) (wpAny_pure (wpAny_bind (wpAny_mono h (fun it z hz => ?_) fun _ _ e => e)))
  obtain ⟨I, n, P, St, Dn, En, tr, rfl, W, hst, htr, hQ⟩ := hz
  exact wpAny_pure ⟨plainId_quiet F.plain_all_loop _, allI W tr htr n 0 z (Nat.zero_add n) hst hQ⟩
theorem call_anyI {x : Value} {Q : Value → Shared → Prop} (h : wpAny (model prog w) A.in1 (pyIter x) (fun it z => ∃ I n P St Dn En tr, it = .ref I ∧ WalkI prog w A.in1 none I n P St Dn En ∧ St 0 z ∧ (∀ i v, P i v → v = .bool (tr i)) ∧ ∀ y, (Dn y ∨ En y) → Q (.bool (anyFrom tr n 0)) y) E s) :
    wpAny (model prog w) A (call (.builtin "any") [x]) Q E s := by
  refine call_function_tree F.kind_any F.plain_any F.entry_any (F.args_any1 _) ?_
  unfold Builtin.«any»
  refine wpAny_bind (m := oneArg "any" _) (wpAny_pure (wpAny_bind (wpAny_mono h (fun it z hz => ?_) fun _ _ e => e)))
  obtain ⟨I, n, P, St, Dn, En, tr, rfl, W, hst, htr, hQ⟩ := hz
  exact wpAny_pure ⟨plainId_quiet F.plain_any_loop _, anyI W tr htr n 0 z (Nat.zero_add n) hst hQ⟩
/-- the sum of the first i -/
def sumTo (val : Nat → Int) : Nat → Int
  | 0 => 0
  | i + 1 => sumTo val i + val i
theorem sumI {S : Addr} (W : WalkI prog w A.in1 (some S) I n P St Dn En) (val : Nat → Int) (hval : ∀ i v, P i v → ∃ t, v = .int (val i) t) : ∀ (k i : Nat) (s : Shared) (tA : Tok) (c : Nat) (stage : Int), (stage = 0 ∨ stage = 2) → i + k = n → St i s →
    s.heap.get? S = some { cls := .type "list", dict := none, data := .seq #[.int (sumTo val i) tA] c, slots := #[] } → (∀ z t, Dn z → R (.ok (.ret (.int (sumTo val n) t))) z) →
    codeAny (model prog w) A (.builtin "sum.loop" ⟨[.ref I, .ref S, rawInt stage, rawInt 0], []⟩) R s := by
  intro k
  induction k with
  | zero =>
    intro i s tA c stage hst hk st hL hR
    obtain rfl : i = n := hk
    refine codeAny_builtin F.entry_sum_loop ?_
    rw [Around.under_plainId F.plain_sum_loop _]
    refine wpAny_bind (m := seqItems? (.ref S)) (wpAny_seqItems hL rfl ?_)
    show wpAny _ A.in1 (tryCatch (pyNext (.ref I)) _ >>= _) _ _ s
    refine wpAny_bind (wpAny_tryCatch (wpAny_mono (W.done s st fun b e => by cases e; exact ⟨_, hL, fun v e => by cases e⟩) (fun r z h => ?_) fun _ _ e => e.elim))
    obtain ⟨rfl, h, _⟩ := h
    exact wpAny_pure (hR z tA h)
  | succ k ih =>
    intro i s tA c stage hst hk st hL hR
    refine codeAny_builtin F.entry_sum_loop ?_
    rw [Around.under_plainId F.plain_sum_loop _]
    refine wpAny_bind (m := seqItems? (.ref S)) (wpAny_seqItems hL rfl ?_)
    show wpAny _ A.in1 (tryCatch (pyNext (.ref I)) _ >>= _) _ _ s
    refine wpAny_bind (wpAny_tryCatch (wpAny_mono (W.item i s (by omega) st fun b e => by cases e; exact ⟨_, hL, fun v e => by cases e⟩) (fun r z h => ?_) fun _ _ e => e.elim))
    obtain ⟨v, rfl, hP, hz, hy, _⟩ := h
    obtain ⟨t, rfl⟩ := hval i v hP
    have hz2 := hy S _ rfl (fun v e => by cases e) hL
    have after : ∀ (h2 : Heap) (tk : Nat), (∀ b o, b ≠ S → z.heap.get? b = some o → h2.get? b = some o) → St (i + 1) { z with heap := h2, toks := tk } := fun h2 tk hk2 => W.more (i + 1) z h2 tk hz fun b o ne e => hk2 b o (fun q => ne (by rw [q])) e
    have other : ∀ {h : Heap} {b : Addr} {o : Obj} {f : Obj → Obj}, b ≠ S → h.get? b = some o → (h.update S f).get? b = some o := fun nb e => (Heap.get?_update_other _ _ (Ne.symm nb)).trans e
    rcases hst with rfl | rfl
    · show wpAny _ A.in1 (if (_ : Bool) = true then (mkInt (sumTo val i + val i) >>= _) else _) _ _ _
      split
      · refine wpAny_bind (wpAny_mkInt (wpAny_bind (m := updateSeq S (fun _ => #[.int (sumTo val i + val i) z.toks])) (wpAny_updateSeq hz2 rfl (wpAny_pure ⟨plainId_quiet F.plain_sum_loop _, ?_⟩))))
        exact ih (i + 1) _ z.toks _ 0 (.inl rfl) (by omega) (after _ _ fun b o nb e => other nb e) (Heap.get?_update_self _ hz2 rfl) hR
      · refine wpAny_bind (wpAny_rule (wpAny_bind (wpAny_attempt (wpAny_holding (PySem.P.add_int ?_)))))
        refine wpAny_bind (m := updateSeq S (fun _ => #[.int (sumTo val i + val i) z.toks])) (wpAny_updateSeq hz2 rfl ?_)
        have hz3 := Heap.get?_update_self (Obj.mapSeq fun _ => #[Value.int (sumTo val i + val i) z.toks]) hz2 rfl
        refine wpAny_bind (wpAny_letGo (wpAny_bind (wpAny_updateSeq hz3 rfl (wpAny_pure ⟨plainId_quiet F.plain_sum_loop _, ?_⟩))))
        exact ih (i + 1) _ z.toks _ 2 (.inr rfl) (by omega) (after _ _ fun b o nb e => other nb (other nb e)) (Heap.get?_update_self _ hz3 rfl) hR
    · show wpAny _ A.in1 ((holding [Value.int (val i) t] (binaryOp .Add (.int (sumTo val i) tA) (.int (val i) t))).attempt >>= _) _ _ _
      refine wpAny_bind (wpAny_attempt (wpAny_holding (PySem.P.add_int ?_)))
      refine wpAny_bind (m := updateSeq S (fun _ => #[.int (sumTo val i + val i) z.toks])) (wpAny_updateSeq hz2 rfl ?_)
      have hz3 := Heap.get?_update_self (Obj.mapSeq fun _ => #[Value.int (sumTo val i + val i) z.toks]) hz2 rfl
      refine wpAny_bind (wpAny_letGo (wpAny_bind (wpAny_updateSeq hz3 rfl (wpAny_pure ⟨plainId_quiet F.plain_sum_loop _, ?_⟩))))
      exact ih (i + 1) _ z.toks _ 2 (.inr rfl) (by omega) (after _ _ fun b o nb e => other nb (other nb e)) (Heap.get?_update_self _ hz3 rfl) hR
variable {E : Value → Shared → Prop} {s : Shared}
theorem call_sumI {x : Value} {Q : Value → Shared → Prop} (h : wpAny (model prog w) A.in1 (pyIter x) (fun it z => ∃ I n P St Dn En val, it = .ref I ∧ WalkI prog w A.in1 (some z.heap.objs.size) I n P St Dn En ∧ St 0 z ∧ (∀ i v, P i v → ∃ t, v = .int (val i) t) ∧ ∀ y t, Dn y → Q (.int (sumTo val n) t) y) E s) :
    wpAny (model prog w) A (call (.builtin "sum") [x]) Q E s := by
  refine call_function_tree F.kind_sum F.plain_sum F.entry_sum (F.args_sum1 _) ?_
  unfold Builtin.«sum»
  simp only [List.length_cons, List.length_nil]
  rw [if_neg (by decide)]
  refine wpAny_bind (wpAny_of_eq (show Builtin.Builtins.bindParams "sum" ["start"] 0 { } = pure [none] from rfl) (wpAny_bind (wpAny_mono h (fun it z hz => ?_) fun _ _ e => e)))
  obtain ⟨I, n, P, St, Dn, En, val, rfl, W, hst, hval, hQ⟩ := hz
  refine wpAny_bind (wpAny_mkInt (wpAny_bind (wpAny_pure ?_)))
  simp only [List.forIn_cons, List.forIn_nil]
  refine wpAny_bind (wpAny_bind (wpAny_bind (wpAny_isInstance (T := "int") (b := false) (typeIs_int _ _ _) PySem.sub_int_str ?_)))
  simp only [Bool.false_eq_true, if_false]
  refine wpAny_pure (wpAny_bind (wpAny_bind (wpAny_isInstance (T := "int") (b := false) (typeIs_int _ _ _) PySem.sub_int_bytes ?_)))
  simp only [Bool.false_eq_true, if_false]
  refine wpAny_pure (wpAny_bind (wpAny_bind (wpAny_isInstance (T := "int") (b := false) (typeIs_int _ _ _) PySem.sub_int_bytearray ?_)))
  simp only [Bool.false_eq_true, if_false]
  refine wpAny_pure (wpAny_pure (wpAny_bind (wpAny_newObj_type ?_)))
  exact wpAny_pure ⟨plainId_quiet F.plain_sum_loop _, sumI W val hval n 0 _ z.toks 0 0 (.inl rfl) (Nat.zero_add n) (W.more 0 z _ _ hst fun b o _ e => Heap.get?_push_of_some _ e) (Heap.get?_push_size _ rfl) hQ⟩
end
end MG

set_option Elab.async false
set_option linter.all false
set_option maxRecDepth 100000
set_option maxHeartbeats 2000000
/-! a fresh generator as such a walk -/
namespace MG
open PySem PyProof.Rows
open Sem (wp)
section
variable {prog : Program} {w : World} {A : Around}
/-- behind the last turn -/
def Last (S : Option Addr) (g : Nat) (Dn : Shared → Prop) (sa s : Shared) : Prop := Young S sa s ∧ ∀ z : Shared, (∀ b o, s.heap.get? b = some o → z.heap.get? b = some o) → z.gens = (s.setGen g .finished).gens → z.os = s.os → Dn z
theorem freshI {S : Option Addr} {target iter elt : Expr} {ifs : List Expr} {scope : Scope} {pos : Pos} {it : Value} {cenv : Env} {n g : Nat} {a : Addr} {pz : Nat → Bool} {F : Nat → Value → Prop} {Dn En : Shared → Prop} {s : Shared} (J : Shared → Nat → Shared → Prop)
    (here : ∀ sa i z, J sa i z → Stands S a g z ∧ Young S sa z ∧ En z) (move : ∀ sa i z y, J sa i z → Grows S z y → J y i y) (j0 : ∀ z, Grows S s z → J z 0 z)
    (self : ∀ (A' : Around) (sa z : Shared) (Q : Value → Shared → Prop), J sa 0 z → Q it z → wpAny (model prog w) A' (pyIter it) Q (fun _ _ => False) z)
    (T : Turns prog w (inL A.in1 (.GeneratorExp elt [⟨target, iter, ifs, 0⟩] scope pos) it cenv) target it ifs elt cenv n pz F J (Last S g Dn)) (hco : cenv.scope.isCoroutine = false)
    (hs : Stands S a g s) (hgs : s.gens[g]? = some (.fresh (.compStart (.GeneratorExp elt [⟨target, iter, ifs, 0⟩] scope pos) 0 it .none cenv))) :
    GenI prog w A S a g pz n F Dn En 0 s := by
  refine ⟨hs, _, hgs, fun z hz => ⟨rfl, ?_⟩⟩
  have hj : J z 0 z := j0 z hz
  have loop := turns_seg (prog := prog) (w := w) (A := A.in1) (iter := iter) (scope := scope) (pos := pos) (R := endI S a g Dn) (Y := prI S a g pz n F En) T hco
    (fun sa y h => ⟨rfl, rfl, h.1, h.2⟩) (fun sa i y v kap hi hp hF hJ hk => ⟨⟨i, passing_here hi hp, hF⟩, here _ _ _ hJ, fun q hq => hk q q (move _ _ _ _ hJ hq) rfl⟩) n 0 z z (Nat.sub_zero _) (Nat.zero_le _) hj
  rw [Nat.sub_zero]
  show Seg _ A.in1 _ _ _ z _ ((compStart (.GeneratorExp elt [⟨target, iter, ifs, 0⟩] scope pos) 0 it .none cenv).onRaise (leaving cenv)) [] z
  unfold compStart
  rw [Sem.onRaise_eq_wrap]
  show Seg _ A.in1 _ _ _ z _ ((ask >>= _).wrap _ _ _ _) [] z
  refine seg_bind_wrap (wpAny_askSetting ?_)
  split
  · exact seg_again rfl loop
  · first
      | exact seg_bind_wrap (wpAny_rule (seg_bind_wrap (wpAny_standAt (seg_bind_wrap (wpAny_mono (self _ z z _ hj (seg_again rfl loop)) (fun _ _ h => h) fun _ _ e => e.elim)))))
      | (refine seg_bind_wrap (wpAny_rule ?_)
         show Seg _ A.in1 _ _ _ z _ ((standAt iter.pos >>= _).wrap _ _ _ _) [] z
         exact seg_bind_wrap (wpAny_standAt (seg_bind_wrap (wpAny_mono (self _ z z _ hj (seg_again rfl loop)) (fun _ _ h => h) fun _ _ e => e.elim))))
end
end MG

set_option Elab.async false
set_option linter.all false
set_option maxRecDepth 100000
set_option maxHeartbeats 2000000
/-! the generator's frame at a later turn -/
namespace MG
open PySem PySem.Spec PyProof.Rows L2
theorem inv_gen2 {X : Cx} {pins ps : List (Addr × Obj)} {σ τ : L2.St} {H Hi : Hp} {s z : Shared} {A : Around} {N : List Str} {env : Env} {fp : List Addr} {xe : Value → Shared → Prop} {m : Str → Option Value}
    (I : Inv X pins σ H s) (hfp : ∀ b ∈ fp, FpOk X pins H b) (lt : ∀ b ∈ fp, b < s.heap.objs.size) (G : GEnv X s env) (hA : A.handled = none) (fr : A.frames = some (env :: X.stack))
    (U : Un (frs X.stack) fp H Hi s.heap z.heap) (hok : HOk X.prog X.w Hi z.heap) (hC : Hi env.locals = none) (hn : z.heap.Ns env.locals m) (hb : AllBare z.gens) (ho : z.os = s.os)
    (hloc : ∀ (i : Nat) (x : Str) (v : V), N[i]? = some x → τ[i]? = some (some v) → Vis env.scope x → ∃ u, RelV v u ∧ Look env z.heap m x u) (hl : τ.length = N.length)
    (hps : ∀ p ∈ ps, z.heap.get? p.1 = some p.2 ∧ Hi p.1 = none ∧ p.1 ≠ env.locals ∧ p.1 ∉ frs X.stack ∧ ∀ v, p.2.data ≠ .cell v) :
    Inv (cxG X A N s H env fp xe) ps τ Hi z := by
  have fpc : ∀ x c, X.env.cells.lookup x = some c → c ∉ fp := fun x c e hx => (hfp c hx).2.2.2.2.1 x c e rfl
  have fpb : ∀ b o, X.base.get? b = some o → b ∉ fp := fun b o e hx => by
    obtain ⟨_, _, _, h4, _, _⟩ := hfp b hx
    rcases h4 with h4 | h4
    · exact I.ok.noex b o e h4
    · exact Nat.lt_irrefl _ (Nat.lt_of_lt_of_le (Nat.lt_of_lt_of_le (Heap.lt_size e) I.ok.bsz) h4)
  refine ⟨⟨I.ok.mod, G.kind, G.glob.trans I.ok.glob, G.blt, Nat.le_of_eq G.loc.symm, fun x y c h1 h2 => I.ok.inj x y c (G.cells x c h1) (G.cells y c h2), fun x h => ?_, fun x c h _ => absurd h (by simp [cxG]), fun _ => hA, fr, .inr ⟨rfl, G.frame⟩, fun b hx => ⟨?_, fun x c h e => ?_⟩,
    fun b o e => I.bs b o e, ?_, fun b o e => fpb b o e, fun b hx => ?_, I.stack, I.stkFree⟩, ho, hb, U, ⟨m, hn, hloc⟩, fun x c h => ?_, hC, fun x c h => ?_, fun p hp => hps p hp, hok, hl⟩
  · rcases h with h | h
    · exact (G.nocell x h).elim
    · exact G.has x h
  · intro e
    have e : b = env.locals := e
    have q := lt b hx
    rw [e, G.loc] at q
    exact Nat.lt_irrefl _ q
  · have e : c = b := e
    subst e
    exact fpc x c (G.cells x c h) hx
  · exact Nat.le_trans I.ok.bsz I.sz
  · intro hy
    have q := hfp b hx
    rcases List.mem_cons.mp (I.stkSub b hy) with e | e
    · exact q.2.1 e
    · exact q.2.2.1 e
  · have c2 := G.cells x c h
    obtain ⟨v, o, q1, q2⟩ := I.cell x c c2
    obtain ⟨sl, q3⟩ := U.any q1 (I.freeC x c c2) (fpc x c c2)
    exact ⟨v, _, q3, q2⟩
  · have c2 := G.cells x c h
    obtain ⟨v, o, q1, q2⟩ := I.cell x c c2
    exact U.free c o q1 (I.freeC x c c2) (fpc x c c2)
end MG

set_option Elab.async false
set_option linter.all false
set_option maxRecDepth 100000
set_option maxHeartbeats 2000000
/-! the turns by PG, PTs, PE -/
namespace MG
open PySem PySem.Spec PyProof.Rows L2
/-- ahead of turn i -/
structure At (X : Cx) (s : Shared) (H : Hp) (C : Addr) (fp : List Addr) (tn : Nat → Heap → Prop) (a : Addr) (go : Obj) (g : Nat) (S : Option Addr) (sa : Shared) (i : Nat) (Hi : Hp) (z : Shared) : Prop where
  un : Un (frs X.stack) fp H Hi s.heap z.heap
  hok : HOk X.prog X.w Hi z.heap
  loc : Hi C = none
  fpn : ∀ b ∈ fp, Hi b = none
  tn : tn i z.heap
  ns : ∃ m, z.heap.Ns C m
  bare : AllBare z.gens
  os : z.os = s.os
  gen : z.heap.get? a = some go
  genn : Hi a = none
  own : ∀ b, S = some b → ∃ o, z.heap.get? b = some o ∧ (∀ v, o.data ≠ .cell v) ∧ Hi b = none ∧ b ∉ frs X.stack ∧ b ≠ C
  gens : g < z.gens.size
  young : Young S sa z
/-- the pins of a turn: the generator, the consumer's list -/
def pinG (a : Addr) (go : Obj) (S : Option Addr) (h : Heap) : List (Addr × Obj) := (a, go) :: (match S with
  | some b => (match h.get? b with
    | some o => [(b, o)]
    | none => [])
  | none => [])
section
variable {X : Cx} {pins : List (Addr × Obj)} {σ τ : L2.St} {H : Hp} {s : Shared} {A : Around} {N : List Str} {env : Env} {fp : List Addr} {a : Addr} {go : Obj} {g : Nat} {S : Option Addr} {it : Addr} {tn : Nat → Heap → Prop} {Jt : It} {target elt iter : Expr} {ifs : List Expr}
theorem At.pinsG {C : Addr} {sa z : Shared} {i : Nat} {Hi : Hp} (h : At X s H C fp tn a go g S sa i Hi z) (aC : a ≠ C) (af : a ∉ frs X.stack) (hgo : ∀ v, go.data ≠ .cell v) :
    ∀ p ∈ pinG a go S z.heap, z.heap.get? p.1 = some p.2 ∧ Hi p.1 = none ∧ p.1 ≠ C ∧ p.1 ∉ frs X.stack ∧ ∀ v, p.2.data ≠ .cell v := by
  intro p hp
  rcases List.mem_cons.mp hp with rfl | hp
  · exact ⟨h.gen, h.genn, aC, af, hgo⟩
  · cases S with
    | none => exact absurd hp (by simp)
    | some b =>
      obtain ⟨o, ho, nc, hn, hf, hc⟩ := h.own b rfl
      have hp : p ∈ (match z.heap.get? b with | some o => [(b, o)] | none => []) := hp
      rw [ho] at hp
      obtain rfl := List.mem_singleton.mp hp
      exact ⟨ho, hn, hc, hf, nc⟩
/-- behind a run in the generator's frame -/
theorem At.ofG {sa y : Shared} {j : Nat} {Hj : Hp} {ps : List (Addr × Obj)} {h0 : Heap} {τ2 : L2.St} {xe : Value → Shared → Prop} (I : Inv (cxG X A N s H env fp xe) (ps ++ pinG a go S h0) τ2 Hj y) (hf : ∀ b ∈ fp, Hj b = none) (ht : tn j y.heap) (hg : g < y.gens.size)
    (ow : ∀ b, S = some b → ∃ o, h0.get? b = some o ∧ ∀ v, o.data ≠ .cell v) (yo : ∀ b o, S = some b → (∀ v, o.data ≠ .cell v) → sa.heap.get? b = some o → h0.get? b = some o) : At X s H env.locals fp tn a go g S sa j Hj y := by
  have pg := I.pin (a, go) (List.mem_append_right _ (List.mem_append_right _ List.mem_cons_self))
  have po : ∀ b o, S = some b → h0.get? b = some o → y.heap.get? b = some o ∧ Hj b = none ∧ b ≠ env.locals ∧ b ∉ frs X.stack ∧ ∀ v, o.data ≠ .cell v := fun b o e ho => by
    subst e
    exact I.pin (b, o) (List.mem_append_right _ (List.mem_append_right _ (List.mem_cons_of_mem _ (by show (b, o) ∈ (match h0.get? b with | some o => [(b, o)] | none => []); rw [ho]; exact List.mem_cons_self))))
  refine ⟨I.base, I.hok, I.free, hf, ht, ?_, I.bare, I.os, pg.1, pg.2.1, fun b e => ?_, hg, fun b o e nc ho => ?_⟩
  · obtain ⟨m, hm, _⟩ := I.loc
    exact ⟨m, hm⟩
  · obtain ⟨o, ho, nc⟩ := ow b e
    obtain ⟨q1, q2, q3, q4, q5⟩ := po b o e ho
    exact ⟨o, q1, nc, q2, q4, q3⟩
  · exact (po b o e (yo b o e nc ho)).1
end
end MG

set_option Elab.async false
set_option linter.all false
set_option maxRecDepth 100000
set_option maxHeartbeats 2000000
namespace MG
open PySem PySem.Spec PyProof.Rows L2
/-- the end of the walk, for the def -/
def Fine (X : Cx) (s : Shared) (H : Hp) (fp : List Addr) (W : Hp → Prop) (z : Shared) : Prop :=
  ∃ Hn, W Hn ∧ Un (frs X.stack) fp H Hn s.heap z.heap ∧ HOk X.prog X.w Hn z.heap ∧ AllBare z.gens ∧ z.os = s.os
section
variable {X : Cx} {pins : List (Addr × Obj)} {σ τ : L2.St} {H : Hp} {s : Shared} {A : Around} {N : List Str} {env : Env} {fp : List Addr} {a : Addr} {go : Obj} {g : Nat} {S : Option Addr} {it : Addr} {tn : Nat → Heap → Prop} {Jt : It} {target elt : Expr} {ifs : List Expr}
theorem turns_pe (I : Inv X pins σ H s) (hfp : ∀ b ∈ fp, FpOk X pins H b) (lt : ∀ b ∈ fp, b < s.heap.objs.size) (G : GEnv X s env) (hA : A.handled = none) (fr : A.frames = some (env :: X.stack)) (TR : Turn X.prog X.w X.K target Jt fp it tn)
    (cap : ∀ (z : Shared) (Hi : Hp) (m : Str → Option Value), Un (frs X.stack) fp H Hi s.heap z.heap → ∀ (i : Nat) (x : Str) (v : V), N[i]? = some x → τ[i]? = some (some v) → Vis env.scope x → ∃ u, RelV v u ∧ Look env z.heap m x u) (hl : τ.length = N.length)
    (aC : a ≠ env.locals) (af : a ∉ frs X.stack) (afp : a ∉ fp) (hgo : ∀ v, go.data ≠ .cell v) (Sfp : ∀ b ∈ fp, S ≠ some b)
    {tg : TG} {tt : TT} {te : TE} (hg : PG (cxG X A N s H env fp fun _ _ => False) target tg) (ht : PTs (cxG X A N s H env fp fun _ _ => False) ifs tt) (he : PE (cxG X A N s H env fp fun _ _ => False) elt te)
    {n : Nat} {pz : Nat → Bool} {FV : Nat → V → Prop} (W : Nat → Hp → Prop)
    (turn : ∀ i Hi, i < n → W i Hi → Jt.go i Hi ∧ ∀ x H', Jt.yld i Hi x H' → tg x τ H' fun σ2 H2 => tt σ2 H2 fun b H3 => b = pz i ∧ (b = false → W (i + 1) H3) ∧ (b = true → te σ2 H3 fun v H4 => FV i v ∧ W (i + 1) H4))
    (stop : ∀ Hn, W n Hn → Jt.stop n Hn) :
    Turns X.prog X.w A target (.ref it) ifs elt env n pz (fun i y => ∃ v, RelV v y ∧ FV i v) (fun sa i z => ∃ Hi, W i Hi ∧ At X s H env.locals fp tn a go g S sa i Hi z) (Last S g (Fine X s H fp (W n))) := by
  have inv : ∀ (sa z : Shared) (i : Nat) (Hi : Hp), At X s H env.locals fp tn a go g S sa i Hi z → Inv (cxG X A N s H env fp fun _ _ => False) (pinG a go S z.heap) τ Hi z := fun sa z i Hi h => by
    obtain ⟨m, hm⟩ := h.ns
    exact inv_gen2 I hfp lt G hA fr h.un h.hok h.loc hm h.bare h.os (cap z Hi m h.un) hl (h.pinsG aC af hgo)
  have fok : ∀ (h0 : Heap) (Hi : Hp), (∀ b ∈ fp, Hi b = none) → ∀ b ∈ fp, FpOk (cxG X A N s H env fp fun _ _ => False) (pinG a go S h0) Hi b := fun h0 Hi hn b hb => by
    refine ⟨hn b hb, fun e => ?_, fun hx => ?_, .inl hb, fun x c e q => ?_, fun p hp e => ?_⟩
    · have q := lt b hb
      rw [show b = env.locals from e, G.loc] at q
      exact Nat.lt_irrefl _ q
    · have q := hfp b hb
      rcases List.mem_cons.mp (I.stkSub b hx) with e | e
      · exact q.2.1 e
      · exact q.2.2.1 e
    · exact (hfp b hb).2.2.2.2.1 x c (G.cells x c e) q
    · have hp : p ∈ pinG a go S h0 := by
        rcases List.mem_append.mp hp with q | q
        · exact absurd q (by simp [cxG])
        · exact q
      rcases List.mem_cons.mp hp with rfl | hp
      · exact afp (by rw [show a = b from e]; exact hb)
      · cases S with
        | none => exact absurd hp (by simp)
        | some c =>
          have hp : p ∈ (match h0.get? c with | some o => [(c, o)] | none => []) := hp
          cases q : h0.get? c with
          | none => rw [q] at hp; exact absurd hp (by simp)
          | some o =>
            rw [q] at hp
            obtain rfl := List.mem_singleton.mp hp
            exact Sfp b hb (by rw [show c = b from e])
  refine ⟨fun sa i z hi hJ => ?_, fun sa z hJ => ?_⟩
  · obtain ⟨Hi, hw, hat⟩ := hJ
    obtain ⟨hgo2, hst⟩ := turn i Hi hi hw
    have own0 : ∀ b, S = some b → ∃ o, z.heap.get? b = some o ∧ ∀ v, o.data ≠ .cell v := fun b e => by
      obtain ⟨o, q1, q2, _⟩ := hat.own b e
      exact ⟨o, q1, q2⟩
    refine GenW.wpAny_gsz (Nat.succ_le_of_lt hat.gens) (wpAny_mono (TR.item (cxG X A N s H env fp fun _ _ => False) rfl rfl rfl rfl i (pinG a go S z.heap) z τ Hi (fun _ _ => False) (inv sa z i Hi hat) (fok z.heap Hi hat.fpn) hat.tn hgo2) (fun r s1 h g1 => ?_) fun _ _ e => e.elim)
    obtain ⟨u, rfl, h⟩ := h
    refine ⟨u, rfl, GenW.wpAny_gsz g1 (wpAny_mono h (fun _ s2 h g2 => ?_) fun _ _ e => e.elim)⟩
    obtain ⟨x, H2, I2, rx, hy, ht2, hf2⟩ := h
    have I3 := I2.pinned (fok z.heap H2 hf2) (TR.obj _ _ ht2)
    refine GenW.wpAny_gsz g2 (wpAny_mono (hg.run _ s2 τ H2 x u _ I3 rx (hst x H2 hy)) (fun _ s3 h g3 => ?_) fun _ _ e => e.elim)
    obtain ⟨τ3, H3, I4, q3⟩ := h
    have back : ∀ {τ4 : L2.St} {H4 : Hp} {y : Shared}, Inv (cxG X A N s H env fp fun _ _ => False) (pinG a go S z.heap ++ pinsAt fp s2.heap) τ4 H4 y → g + 1 ≤ y.gens.size → At X s H env.locals fp tn a go g S sa (i + 1) H4 y := fun {τ4 H4 y} I5 g5 => by
      refine At.ofG (ps := []) I5.unpinned (fun b hb => ?_) (TR.keep _ _ _ ht2 fun b hb o e => (I5.pin (b, o) (List.mem_append_right _ (List.mem_append_right _ (mem_pinsAt hb e)))).1) g5 own0 hat.young
      obtain ⟨o, e, _⟩ := TR.obj _ _ ht2 b hb
      exact (I5.pin (b, o) (List.mem_append_right _ (List.mem_append_right _ (mem_pinsAt hb e)))).2.1
    refine GenW.wpAny_gsz g3 (wpAny_mono (ht.run _ s3 τ3 H3 _ I4 q3) (fun ok s4 h g4 => ?_) fun _ _ e => e.elim)
    obtain ⟨H4, I5, rfl, q1, q2⟩ := h
    refine ⟨rfl, fun hp => ⟨H4, q1 hp, back I5 g4⟩, fun hp => GenW.wpAny_gsz g4 (wpAny_mono (he.run _ s4 τ3 H4 _ I5 (q2 hp)) (fun y s5 h g5 => ?_) fun _ _ e => e.elim)⟩
    obtain ⟨v, H5, I6, rv, q3, q4⟩ := h
    exact ⟨⟨v, rv, q3⟩, H5, q4, back I6 g5⟩
  · obtain ⟨Hn, hw, hat⟩ := hJ
    refine wpAny_mono (TR.done (cxG X A N s H env fp fun _ _ => False) rfl rfl rfl rfl n (pinG a go S z.heap) z τ Hn (fun _ _ => False) (inv sa z n Hn hat) (fok z.heap Hn hat.fpn) hat.tn (stop Hn hw)) (fun r s1 h => ?_) fun _ _ e => e.elim
    obtain ⟨rfl, I2⟩ := h
    have own0 : ∀ b, S = some b → ∃ o, z.heap.get? b = some o ∧ ∀ v, o.data ≠ .cell v := fun b e => by
      obtain ⟨o, q1, q2, _⟩ := hat.own b e
      exact ⟨o, q1, q2⟩
    have po : ∀ b o, S = some b → z.heap.get? b = some o → s1.heap.get? b = some o := fun b o e ho => by
      subst e
      exact (I2.pin (b, o) (List.mem_append_right _ (List.mem_cons_of_mem _ (by show (b, o) ∈ (match z.heap.get? b with | some o => [(b, o)] | none => []); rw [ho]; exact List.mem_cons_self)))).1
    refine ⟨rfl, fun b o e nc ho => po b o e (hat.young b o e nc ho), fun y hk hgs hos => ⟨Hn, hw, ?_, ?_, ?_, hos.trans I2.os⟩⟩
    · have U := I2.base
      exact ⟨fun b o e n h1 h2 => hk b o (U.keep b o e n h1 h2), fun b o e n h1 h2 => by
        obtain ⟨sl, q⟩ := U.slot b o e n h1 h2
        exact ⟨sl, hk b _ q⟩, U.free, fun b o e h1 => by
        obtain ⟨o2, q⟩ := U.there b o e h1
        exact ⟨o2, hk b _ q⟩, U.tups, U.frzs, U.tbls⟩
    · exact fun b o e => (I2.hok b o e).stay (fun d v _ q => hk d v q) (fun _ q => q) fun _ _ q => q
    · rw [hgs]
      exact bare_set I2.bare rfl
end
end MG

set_option Elab.async false
set_option linter.all false
set_option maxRecDepth 100000
set_option maxHeartbeats 4000000
namespace MG
open PySem
section
variable (A : Around) (elt : Expr) (gens : List Comprehension) (scope : Scope) (pos : Pos) (it : Value) (cenv : PySem.Env)
theorem inL_depth : (inL A (.GeneratorExp elt gens scope pos) it cenv).depth ≤ A.depth + 1 := by
  unfold inL Around.over; show A.depth + _ + _ ≤ _; simp [Code.weight, frameCount, Code.frames, Code.isCreation, Code.isGuard, Code.isCaller, Code.isFrame]
theorem inL_units : (inL A (.GeneratorExp elt gens scope pos) it cenv).units ≤ A.units + 3 := by
  unfold inL Around.over; simp [Code.cUnits, unitsOf, Code.frames, Code.isFrame]
theorem inL_frames (l : List PySem.Env) (h : A.frames = some l) : (inL A (.GeneratorExp elt gens scope pos) it cenv).frames = some (cenv :: l) := by
  unfold inL Around.over; simp [h, envsOf, Code.envs, pushEnvs, Code.isFrame, Code.env?]
theorem inL_handled (h : A.handled = none) : (inL A (.GeneratorExp elt gens scope pos) it cenv).handled = none := by
  unfold inL Around.over; simp [h, marksOver]
end
end MG
namespace MP
open PySem PySem.Spec PyProof.Rows L2 MG
variable [Gb]

/-! ### the items leave no trace -/
theorem quiet_some {r : R D} {st : Sto} {d : D} (h : quiet r id st = some d) : ∃ st', r = some (.ok d, st') ∧ gc st d st' = st := by
  unfold quiet at h
  split at h
  · split at h
    · rename_i e; cases h; exact ⟨_, rfl, e⟩
    · cases h
  · cases h
theorem genL_at {tg : G} {σ : MP.Env} {fe : MP.Env → Sto → R D} {st : Sto} : ∀ {is vs : List D}, genL tg σ fe st is = some vs → vs.length = is.length ∧ ∀ (i : Nat) (d : D), is[i]? = some d → ∃ σ' v st', asgG tg d σ = some σ' ∧ fe σ' st = some (.ok v, st') ∧ gc st v st' = st ∧ vs[i]? = some v
  | [], vs, h => by cases h; exact ⟨rfl, fun (i : Nat) d e => by simp at e⟩
  | d :: ds, vs, h => by
    unfold genL at h
    split at h
    · rename_i σ' e1
      split at h
      · rename_i v ws e2 e3
        cases h
        obtain ⟨l, q⟩ := genL_at e3
        obtain ⟨st', e4, e5⟩ := quiet_some e2
        refine ⟨by rw [List.length_cons, List.length_cons, l], fun i x e => ?_⟩
        cases i with
        | zero =>
          have z : d = x := Option.some.inj e
          subst z
          exact ⟨σ', v, st', e1, e4, e5, rfl⟩
        | succ i => exact q i x e
      · cases h
    · cases h
theorem seqI_held {d : D} {st : Sto} {ds : List D} {g : Grd} (h : seqI d st = some (ds, g)) : held g st := by
  unfold seqI at h
  split at h
  · cases h; exact fun p hp => absurd hp (by simp)
  · cases h; exact fun p hp => absurd hp (by simp)
  · split at h
    · rename_i e
      cases h
      exact fun p hp => by rw [List.mem_singleton.mp hp]; exact e
    · cases h
  · cases h
theorem items_held {k : IK} {ds : List D} {st : Sto} {is : List D} {g : Grd} (h : items k ds st = some (is, g)) : held g st := by
  have nil : held [] st := fun p hp => absurd hp (by simp)
  cases k with
  | seq =>
    have h : itSeq ds st = some (is, g) := h
    unfold itSeq at h
    split at h
    · cases h; exact nil
    · exact seqI_held h
    · cases h
  | rng1 =>
    have h : itRng1 ds = some (is, g) := h
    unfold itRng1 at h
    split at h
    · split at h
      · cases h; exact nil
      · cases h
    · cases h
  | rng2 =>
    have h : itRng2 ds = some (is, g) := h
    unfold itRng2 at h
    split at h
    · split at h
      · cases h; exact nil
      · cases h
    · cases h
  | rng3 =>
    have h : itRng3 ds = some (is, g) := h
    unfold itRng3 at h
    split at h
    · split at h
      · cases h; exact nil
      · cases h
    · cases h
  | enum =>
    have h : itEnum ds st = some (is, g) := h
    unfold itEnum at h
    split at h
    · cases h; exact nil
    · split at h
      · rename_i e; cases h; exact seqI_held e
      · cases h
    · cases h
  | rev =>
    have h : itRev ds st = some (is, g) := h
    unfold itRev at h
    split at h
    · split at h
      · rename_i e; cases h; exact seqI_held e
      · cases h
    · cases h
  | zip =>
    have h : itZip ds st = some (is, g) := h
    unfold itZip at h
    split at h
    · split at h
      · split at h
        · rename_i e1 e2
          cases h
          intro p hp
          rcases List.mem_append.mp hp with q | q
          · exact seqI_held e1 p q
          · exact seqI_held e2 p q
        · cases h
      · cases h
    · cases h
section
variable {K : PySem.W.Frag} {H : Hp} {μ μ' : List Addr} {st : Sto}
theorem Ext.tab {P : Addr} {ps more : Array Value} (h : H P = some (.tbl ps)) : Ext μ H μ (upd H P (.tbl (ps ++ more))) :=
  ⟨List.prefix_refl _, Mono.mut h (fun _ z => by cases z) (fun _ _ z => by cases z), fun _ h => .inl h, fun b o _ e n => by rw [upd_ne fun z => by subst z; rw [h] at e; exact n ps (Option.some.inj e).symm]; exact e, fun b o _ e => by
    by_cases z : b = P
    · subst z; rw [upd_same]; simp
    · rw [upd_ne z, e]; simp⟩
theorem RSt.tbl (r : RSt K H μ st) {P : Addr} {ps more : Array Value} (h : H P = some (.tbl ps)) (ht : TriplesOk (ps ++ more).toList) : RSt K (upd H P (.tbl (ps ++ more))) μ st := by
  refine ⟨r.len, r.nd, fun n o a e1 e2 => ?_, fun Q hQ => ?_⟩
  · have q := r.at_ n o a e1 e2
    refine q.same (Ext.tab (μ := μ) h).mono (List.prefix_refl _) fun _ => upd_ne fun z => ?_
    subst z
    cases o with
    | lst ds => obtain ⟨vs, h1, _⟩ := q; rw [h] at h1; cases h1
    | ins c fs => obtain ⟨dx, vs, h1, _⟩ := q; rw [h] at h1; cases h1
    | dic kvs => obtain ⟨ws, h1, _⟩ := q; rw [h] at h1; cases h1
  · by_cases z : Q = P
    · subst z
      exact ⟨_, upd_same, ht⟩
    · obtain ⟨qs, e, t⟩ := r.tab Q hQ
      exact ⟨qs, by rw [upd_ne z]; exact e, t⟩
theorem pre_same {μ μ' : List Addr} (p : Pre μ μ') (l : μ'.length = μ.length) : μ' = μ := by
  obtain ⟨t, rfl⟩ := p
  rw [List.length_append] at l
  rw [List.eq_nil_of_length_eq_zero (show t.length = 0 by omega), List.append_nil]
end

/-- a walk, ahead of its generator -/
structure GW (K : PySem.W.Frag) (σ : L2.St) (me : MP.Env → Sto → R D) (g : G) (own : List Nat) (n : Nat) (vs : List D) (J : It) (H : Hp) (μ : List Addr) (st : Sto) : Prop where
  rst : RSt K H μ st
  its : ∃ env is gd, REnv K H μ env σ ∧ held gd st ∧ Walks K J is gd μ H ∧ genL g (MP.wipe env own) me st is = some vs ∧ is.length = n
/-- what the values are -/
def IsD (d : D) (v : V) : Prop := (∀ j, d = .int j → v = .int j) ∧ (∀ b, d = .bl b → v = .bl b)

theorem lookup_mem {α : Type} : ∀ {l : List (Str × α)} {x : Str} {a : α}, l.lookup x = some a → (x, a) ∈ l
  | [], _, _, h => by cases h
  | (y, b) :: l, x, a, h => by
    rw [List.lookup_cons] at h
    cases e : x == y with
    | true =>
      rw [e] at h
      have z : b = a := Option.some.inj h
      rw [beq_iff_eq] at e
      subst z e
      exact List.mem_cons_self
    | false =>
      rw [e] at h
      exact List.mem_cons_of_mem _ (lookup_mem h)
structure GenOk (N : List Str) (sc scope : Scope) : Prop where
  blk : BlkOk N sc scope (ownOf N scope)
  co : scope.isCoroutine = false
  dot : scope.names.lookup (".0" : Str) = some NameKind.local
  cell : ∀ y ∈ scope.names, y.2 ≠ .cell
theorem genOk_by {N : List Str} {sc scope : Scope} (h : genC N sc scope = true) : GenOk N sc scope := by
  unfold genC at h
  simp only [Bool.and_eq_true, List.all_eq_true, decide_eq_true_eq] at h
  obtain ⟨⟨⟨h1, h2⟩, h3⟩, h4⟩ := h
  exact ⟨blkOk_by h4, by simpa using h1, h2, h3⟩

section
variable {X : Cx} {k : Nat} {c : CC} {C : CalT} {E : L2.St → XK} {tg iter elt : Expr} {g : G} {scope : Scope} {gp : Pos} {me : MP.Env → Sto → R D} {ms : MP.Env → Sto → R (List D)} {ik : IK}
/-- the generator's frame as a context that is known -/
theorem Okc.gx (o : Okc k c C E X) (hgen : c.gen = true) {A : Around} {s : Shared} {H : Hp} {cenv : PySem.Env} {fp : List Addr} (hs : cenv.scope = scope) (hk : scope.kind = .function) (hd : A.depth ≤ X.A.depth + 1) (hu : A.units ≤ X.A.units + 5) (hh : A.handled = none) :
    Okc k (c.gx scope) C (kE E0) (cxG X A X.N s H cenv fp fun _ _ => False) where
  calm := rfl
  N := o.N
  nd := o.nd
  sc := hs
  kind := hk
  top := fun z => by cases z
  units := by
    have := (o.room2 hgen).un
    show A.units + 64 < cLine
    omega
  po := PassesOwn.never
  room := by
    have := o.room2 hgen
    exact ⟨hh, by have := this.dp; show A.depth + 3 * (k + 1) + 5 < _; omega, by have := this.un; show A.units + 16 * (k + 1) + 200 < _; omega⟩
  room2 := fun z => by cases z
  tk := takes_no rfl
  cal := o.cal
  meth := o.meth
  mak := o.mak
  free := o.free
  lib := o.lib
  con := o.con
  own := fun x hx => by cases hx
  fld := o.fld
  stk := fun z => by cases z
  exc := fun z => by cases z
  tab := fun z => by cases z
theorem find_cell : ∀ {names : List (Str × NameKind)} {cells : List (Str × Addr)} {x : Str} {d : Addr}, (cloFrom cells names []).lookup x = some d → (x, NameKind.free) ∈ names ∧ d = (cells.lookup x).getD 0 := fun h => by
  rcases cloFrom_mem (lookup_mem h) with q | q
  · exact absurd q (by simp)
  · exact q

/-- the generator is made: what a built-in may do with it -/
def ReadyG (X : Cx) (pins : List (Addr × Obj)) (σ : L2.St) (vs : List D) (R : Hp → Prop) (a : Addr) (s5 : Shared) : Prop :=
  ∃ gi, s5.heap.IsGen a gi ∧ ∀ S : Option Addr, (S = none ∨ S = some s5.heap.objs.size) → ∃ P St Dn En, WalkI X.prog X.w X.A.in1 S a vs.length P St Dn En ∧ St 0 s5 ∧ (∀ i y, P i y → ∃ v d, RelV v y ∧ vs[i]? = some d ∧ IsD d v) ∧ ∀ y, (Dn y ∨ En y) → ∃ H2, Inv X pins σ H2 y ∧ R H2
theorem range_passing (n : Nat) : passing (fun _ => true) n 0 = List.range n := GxR.passing_true n
theorem gen_make (o : Okc k c C E X) (hgen : c.gen = true) (okg : GenOk X.N X.env.scope scope) (hi : PI X tg iter (rdI X.K E ms ik)) (hsl : ∀ j ∈ gsl g, j ∈ (ownOf X.N scope).map (·.2))
    (hG : ∀ Y : Cx, Okc k (c.gx scope) C (kE E0) Y → PG Y tg (rdG Y.K (gsl g) (asgG g))) (hE : ∀ Y : Cx, Okc k (c.gx scope) C (kE E0) Y → PE Y elt (rdE Y.K (kE E0) me))
    (hfold : ∀ v, genFold iter X.env v = pure v) {pins : List (Addr × Obj)} {σ : L2.St} {H : Hp} {s : Shared} {Q' : Value → Shared → Prop} {T : List D → Hp → Prop} {Z : List D → Prop}
    (I : Inv X pins σ H s) (h : rdI X.K E ms ik σ H fun J H1 => ∃ vs μ st n, Z vs ∧ GW X.K σ me g ((ownOf X.N scope).map (·.2)) n vs J H1 μ st ∧ ∀ H2, Ext μ H1 μ H2 → RSt X.K H2 μ st → T vs H2)
    (hQ : ∀ vs a s5, Z vs → ReadyG X pins σ vs (T vs) a s5 → Q' (.ref a) s5) :
    wpAny (model X.prog X.w) X.A (eval (.GeneratorExp elt [⟨tg, iter, [], 0⟩] scope gp) X.env) Q' X.xe s := by
  have hr := o.room2 hgen
  have hh : X.A.handled = none := hr.hd
  obtain ⟨c0, P, TB, hcode, hPt⟩ := o.tab hgen
  have hfree : ∀ y ∈ scope.names, y.2 = .free → ∃ d, X.env.cells.lookup y.1 = some d := fun y hy e => I.ok.has y.1 (okg.blk.free y hy e)
  refine wpAny_GeneratorExp_make okg.co (closure_ok hfree) okg.cell okg.dot okg.blk.kind (by have := hr.dp; omega) ?_ hfold
  refine wpAny_mono (hi.run pins s σ H _ I h) (fun xv s1 h1 => wpAny_mono h1 (fun itv s2 h2 => ?_) fun _ _ e => e) fun _ _ e => e
  obtain ⟨it, fp, tn, J, H1, rfl, I1, TR, htn, hfp, vs, μ, st, n, hZ, gw, hT⟩ := h2
  refine ⟨I1.nolimit, ?_⟩
  obtain ⟨ps, hP, ht⟩ := gw.rst.tab P hPt
  have hPs : s2.heap.get? P = some { cls := .none, data := .fields ps } := I1.hok P _ hP
  have cd : PySem.W.CodeHd s2.heap c0 P := TB.code.keeps fun b u e => I1.bk b u e
  have cont : ∀ (code : Value) (h3 : Heap) (tk : Nat) (more : Array Value), Heap.ExtBut P s2.heap h3 → s2.heap.objs.size ≤ h3.objs.size → h3.get? P = some { cls := .none, data := .fields (ps ++ more) } → TriplesOk (ps ++ more).toList →
      wpAny (model X.prog X.w) X.A (builtinsFor X.env.globals X.env.builtins) (fun bi s₄ =>
        ∀ h', h'.Ns s₄.heap.objs.size (fun y => if y = ".0" then some (Value.ref it) else none) → Heap.SameBut s₄.heap.objs.size (s₄.heap.push { cls := .type "frame", data := .dict #[] }) h' →
          Q' (.ref h'.objs.size) { s₄ with
            gens := s₄.gens.push (.fresh (.compStart (.GeneratorExp elt [⟨tg, iter, [], 0⟩] scope gp) 0 (.ref it) .none (genEnv scope (cloFrom X.env.cells scope.names []) s₄.heap.objs.size code bi X.env))),
            toks := s₄.toks + 1 + 1 + 1,
            heap := h'.push { cls := .type "generator", data := .fields #[.int s₄.gens.size 0, .str "<genexpr>" (s₄.toks + 1), .str (X.env.qual ++ "<genexpr>") (s₄.toks + 1 + 1)] } }) X.xe { s2 with heap := h3, toks := tk } := by
    intro code h3 tk more hx hsz0 hP3 ht3
    have I3 : Inv X pins σ (upd H1 P (.tbl (ps ++ more))) { s2 with heap := h3, toks := tk } := GxR.inv_tab I1 hP (fun b u hb e => hx b u hb e) hP3 I1.bare
    have x3 : Ext μ H1 μ (upd H1 P (.tbl (ps ++ more))) := Ext.tab hP
    have r3 : RSt X.K (upd H1 P (.tbl (ps ++ more))) μ st := gw.rst.tbl hP ht3
    have n3 : ∀ b, H1 b = none → upd H1 P (.tbl (ps ++ more)) b = none := fun b e => by rw [upd_ne fun z => by rw [z, hP] at e; cases e]; exact e
    generalize upd H1 P (.tbl (ps ++ more)) = H3 at *
    have nP : ∀ b ∈ fp, b ≠ P := fun b hb z => by
      have q := (hfp b hb).1
      rw [z, hP] at q; cases q
    have hfp3 : ∀ b ∈ fp, FpOk X pins H3 b := fun b hb => by
      obtain ⟨q1, q⟩ := hfp b hb
      exact ⟨n3 b q1, q⟩
    have htn3 : tn 0 h3 := TR.keep _ _ _ htn fun b hb ob e => hx b ob (nP b hb) e
    have lt3 : ∀ b ∈ fp, b < h3.objs.size := fun b hb => by
      obtain ⟨ob, e, _⟩ := TR.obj _ _ htn3 b hb
      exact Heap.lt_size e
    obtain ⟨bm, ob, e1, e2, e3, e4, e5, e6, e7, e8⟩ := TB.bm
    refine wpAny_builtinsFor (m := X.mg) (by rw [I3.ok.glob]; exact I3.mod.glob.keeps I3.bk) e1 e2 (I3.bk _ _ e5) e6 e7 e8 ?_
    intro h' hn' hs'
    have hsz : h'.objs.size = h3.objs.size + 1 := by rw [hs'.1]; exact Heap.size_push ..
    generalize hgo : ({ cls := .type "generator", data := .fields #[.int s2.gens.size 0, .str "<genexpr>" (tk + 1), .str (X.env.qual ++ "<genexpr>") (tk + 1 + 1)] } : Obj) = go
    generalize hcv : genEnv scope (cloFrom X.env.cells scope.names []) h3.objs.size code builtinsNs X.env = cenv
    have cloc : cenv.locals = h3.objs.size := by rw [← hcv]; rfl
    have csc : cenv.scope = scope := by rw [← hcv]; rfl
    have G : GEnv X { s2 with heap := h3, toks := tk } cenv := by
      subst hcv
      refine ⟨okg.blk.kind, rfl, rfl, rfl, rfl, fun x d e => ?_, fun x e => okg.cell _ (lookup_mem e) rfl, fun x e => ?_⟩
      · obtain ⟨q1, q2⟩ := find_cell e
        obtain ⟨d', q3⟩ := hfree _ q1 rfl
        rw [q3] at q2
        rw [q3, q2]; rfl
      · exact mem_lookup (cloFrom_has (cells := X.env.cells) (lookup_mem e))
    have kp : ∀ b u, h3.get? b = some u → (h'.push go).get? b = some u := fun b u e => Heap.get?_push_of_some _ (hs'.extBut b u (Nat.ne_of_lt (Heap.lt_size e)) (Heap.get?_push_of_some _ e))
    have gen5 : (h'.push go).IsGen h'.objs.size s2.gens.size := by subst hgo; exact ⟨_, _, _, Heap.get?_push_size _ rfl, rfl, rfl, rfl⟩
    have gg : (h'.push go).get? h'.objs.size = some go := Heap.get?_push_size _ (by subst hgo; rfl)
    have gnc : ∀ v, go.data ≠ .cell v := by subst hgo; intro v z; cases z
    have toGen : ∀ hp : Heap, hp.get? h'.objs.size = some go → hp.IsGen h'.objs.size s2.gens.size := by subst hgo; intro hp e; exact ⟨_, _, _, e, rfl, rfl, rfl⟩
    have h5sz : (h'.push go).objs.size = h'.objs.size + 1 := Heap.size_push ..
    have nostk : ∀ b : Addr, h3.objs.size ≤ b → b ∉ frs X.stack := fun b hb z => by
      rcases List.mem_cons.mp (I3.stkSub b z) with e | e
      · have q : X.env.locals < h3.objs.size := I3.lt
        rw [e] at hb
        exact Nat.lt_irrefl _ (Nat.lt_of_lt_of_le q hb)
      · exact I3.nofs hb e
    have fpb : ∀ b u, X.base.get? b = some u → b ∉ fp := fun b u e hx => by
      obtain ⟨_, _, _, h4, _, _⟩ := hfp3 b hx
      rcases h4 with h4 | h4
      · exact I3.ok.noex b u e h4
      · exact Nat.lt_irrefl _ (Nat.lt_of_lt_of_le (Nat.lt_of_lt_of_le (Heap.lt_size e) I3.ok.bsz) h4)
    have bstk : ∀ b u, X.base.get? b = some u → b ∉ frs X.stack := fun b u e z => by
      rcases List.mem_cons.mp (I3.stkSub b z) with q | q
      · have q2 := Nat.lt_of_lt_of_le (Nat.lt_of_lt_of_le (Heap.lt_size e) I3.ok.bsz) I3.ok.above
        rw [q] at q2
        exact Nat.lt_irrefl _ q2
      · exact I3.ok.nofr e q
    have csl : cStatics < h3.objs.size := let ⟨_, hns, _⟩ := I3.nolimit; hns.lt
    refine hQ vs h'.objs.size _ hZ ⟨s2.gens.size, gen5, fun S hS => ?_⟩
    have Sge : ∀ b : Addr, b < (h'.push go).objs.size → S ≠ some b := fun b hb z => by
      rcases hS with e | e
      · rw [e] at z; cases z
      · rw [e] at z
        cases z
        exact Nat.lt_irrefl _ hb
    have Slt : ∀ b, S = some b → h3.objs.size ≤ b ∧ b ≠ h3.objs.size := fun b z => by
      rcases hS with e | e
      · rw [e] at z; cases z
      · rw [e] at z
        cases z
        have q : (h'.push go).objs.size = h3.objs.size + 2 := by rw [h5sz, hsz]
        refine ⟨?_, fun z => ?_⟩
        · show h3.objs.size ≤ (h'.push go).objs.size
          rw [q]; exact Nat.le_add_right _ _
        · have z : (h'.push go).objs.size = h3.objs.size := z
          omega
    have Sh3 : ∀ b u, h3.get? b = some u → S ≠ some b := fun b u e => Sge b (Nat.lt_of_lt_of_le (Heap.lt_size e) (by rw [h5sz, hsz]; omega))
    have oky := o.gx (A := inL X.A.in1.in1 (.GeneratorExp elt [⟨tg, iter, [], 0⟩] scope gp) (.ref it) cenv) (s := { s2 with heap := h3, toks := tk }) (H := H3) (cenv := cenv) (fp := fp) hgen csc okg.blk.kind (inL_depth _ _ _ _ _ _ _) (Nat.le_trans (inL_units _ _ _ _ _ _ _) (by show X.A.units + 1 + 1 + 3 ≤ _; omega)) (inL_handled _ _ _ _ _ _ _ hh)
    obtain ⟨rst, env, is, gd, henv, hheld, hwalk, hgl, hlen⟩ := gw
    obtain ⟨hvl, hvat⟩ := genL_at hgl
    have T1 := turns_pe (A := inL X.A.in1.in1 (.GeneratorExp elt [⟨tg, iter, [], 0⟩] scope gp) (.ref it) cenv) (N := X.N) (τ := L2.wipe σ ((ownOf X.N scope).map (·.2))) (a := h'.objs.size) (go := go) (g := s2.gens.size) (S := S) I3 hfp3 lt3 G (inL_handled _ _ _ _ _ _ _ hh) (inL_frames _ _ _ _ _ _ _ _ I3.ok.frames) TR
      (fun z Hi m un i x v hN hv hvis => ?cap) (by rw [wipe_length]; exact I3.len) (by rw [cloc, hsz]; exact Nat.succ_ne_self _) (nostk _ (by rw [hsz]; exact Nat.le_succ _)) (fun hx => Nat.lt_irrefl _ (Nat.lt_of_lt_of_le (lt3 _ hx) (by rw [hsz]; exact Nat.le_succ _))) gnc (fun b hb => Sh3 b _ (TR.obj _ _ htn3 b hb).choose_spec.1) (hG _ oky) pts_nil (hE _ oky) (n := n) (pz := fun _ => true)
      (FV := fun i v => ∃ d, vs[i]? = some d ∧ IsD d v) (fun _ Hi => Ext μ H3 μ Hi ∧ RSt X.K Hi μ st) (fun i Hi hi hw => ?turn) (fun Hn hw => ?stop)
    case cap =>
      obtain ⟨q1, hni⟩ := wipe_some hv
      have hvis : scope.names.lookup x = some .local ∨ scope.names.lookup x = some .cell ∨ scope.names.lookup x = some .free := by rw [← csc]; exact hvis
      have xN : x ∈ X.N := List.mem_of_getElem? hN
      rcases hvis with e | e | e
      · exfalso
        rcases okg.blk.own _ (lookup_mem e) (.inl rfl) with z | z
        · obtain ⟨p, hp, e9⟩ := List.mem_map.mp z
          have q2 := okg.blk.ix p hp
          have e9 : p.1 = x := e9
          rw [e9] at q2
          have q3 : p.2 = i := (List.getElem?_inj (List.getElem?_eq_some_iff.mp q2).1 o.nd').mp (q2.trans hN.symm)
          exact hni (List.mem_map.mpr ⟨p, hp, q3⟩)
        · exact z xN
      · exact absurd rfl (okg.cell _ (lookup_mem e))
      · obtain ⟨m0, _, hl0⟩ := I3.loc
        have kk := okg.blk.free _ (lookup_mem e) rfl
        obtain ⟨u, ru, lk⟩ := hl0 i x v hN q1 (.inr kk)
        refine ⟨u, ru, ?_⟩
        rcases lk with ⟨lk, _⟩ | ⟨_, d, lk, ob, hob, hdat⟩
        · rcases kk with kk | kk
          · have lk : X.env.scope.names.lookup x = some .local := lk
            rw [show X.env.scope.names.lookup x = some .cell from kk] at lk; cases lk
          · have lk : X.env.scope.names.lookup x = some .local := lk
            rw [show X.env.scope.names.lookup x = some .free from kk] at lk; cases lk
        · obtain ⟨d2, e10⟩ := G.has x (show cenv.scope.names.lookup x = some .free by rw [csc]; exact e)
          have e11 := G.cells x d2 e10
          rw [lk] at e11; cases e11
          obtain ⟨sl, q⟩ := un.any hob (I3.freeC x d lk) fun z => (hfp3 d z).2.2.2.2.1 x d lk rfl
          exact .inr ⟨.inr (show cenv.scope.names.lookup x = some .free by rw [csc]; exact e), d, e10, _, q, hdat⟩
    case turn =>
      obtain ⟨xw, rw_⟩ := hw
      obtain ⟨d, hd⟩ : ∃ d, is[i]? = some d := ⟨_, List.getElem?_eq_getElem (by rw [hlen]; exact hi)⟩
      obtain ⟨go1, yl⟩ := hwalk.go i μ Hi st d (List.prefix_refl _) (x3.mono.trans xw.mono) rw_ hheld hd
      refine ⟨go1, fun xv H' hy => ?_⟩
      obtain ⟨x4, r4, rd4⟩ := yl xv H' hy
      obtain ⟨env', v, st', e1', e2', e3', e4'⟩ := hvat i d hd
      refine ⟨μ, _, d, env', rd4, (henv.mono (((x3.trans xw)).trans x4)).wipe _, e1', fun σ2 _ he2 => ⟨rfl, (fun z => nomatch z), fun _ => ?_⟩⟩
      refine ⟨μ, env', st, r4, he2, .ok v, st', e2', fun μ5 H5 x5 r5 v5 rv5 => ?_⟩
      obtain ⟨μ6, p6, x6, r6, c6⟩ := gc_world (d := v) r4 x5 r5
      rw [e3'] at r6
      have e6 : μ6 = μ := pre_same x6.pre (by rw [r6.len, r4.len])
      subst e6
      refine ⟨⟨v, e4', fun j e => ?_, fun b e => ?_⟩, (xw.trans x4).trans x6, r6⟩
      · subst e; exact rv5
      · subst e; exact rv5
    case stop =>
      obtain ⟨xw, rw_⟩ := hw
      have q := hwalk.stop μ Hn st (List.prefix_refl _) (x3.mono.trans xw.mono) rw_ hheld
      rw [hlen] at q
      exact q
    have un5 : ∀ (z : Shared), (∀ b u, h3.get? b = some u → z.heap.get? b = some u) → Un (frs X.stack) fp H3 H3 h3 z.heap := fun z kz => Un.kept kz
    refine ⟨fun j y => ∃ i, (passing (fun _ => true) n 0)[j]? = some i ∧ ∃ v, RelV v y ∧ ∃ d, vs[i]? = some d ∧ IsD d v, GenI X.prog X.w X.A.in1 S h'.objs.size s2.gens.size (fun _ => true) n (fun i y => ∃ v, RelV v y ∧ ∃ d, vs[i]? = some d ∧ IsD d v)
      (Fine X { s2 with heap := h3, toks := tk } H3 fp fun Hi => Ext μ H3 μ Hi ∧ RSt X.K Hi μ st) (Fine X { s2 with heap := h3, toks := tk } H3 fp fun Hi => Ext μ H3 μ Hi ∧ RSt X.K Hi μ st),
      (Fine X { s2 with heap := h3, toks := tk } H3 fp fun Hi => Ext μ H3 μ Hi ∧ RSt X.K Hi μ st), (Fine X { s2 with heap := h3, toks := tk } H3 fp fun Hi => Ext μ H3 μ Hi ∧ RSt X.K Hi μ st), ?_, ?_, fun i y hy => ?_, fun y hy => ?_⟩
    · have W := walkI (prog := X.prog) (w := X.w) (A := X.A.in1) (S := S) (a := h'.objs.size) (g := s2.gens.size) (pz := fun _ => true) (n := n) (F := fun i y => ∃ v, RelV v y ∧ ∃ d, vs[i]? = some d ∧ IsD d v)
        (Dn := Fine X { s2 with heap := h3, toks := tk } H3 fp fun Hi => Ext μ H3 μ Hi ∧ RSt X.K Hi μ st) (En := Fine X { s2 with heap := h3, toks := tk } H3 fp fun Hi => Ext μ H3 μ Hi ∧ RSt X.K Hi μ st) hh (by have := hr.dp; show X.A.depth < _; omega)
        (fun z y ⟨Hn, hw, u, k, _, os⟩ e1 e2 e3 => ⟨Hn, hw, by rw [e1]; exact u, by rw [e1]; exact k, e3, e2.trans os⟩)
      have e : (passing (fun _ => true) n 0).length = vs.length := by rw [range_passing, List.length_range, hvl, hlen]
      rw [e] at W
      exact W
    · refine freshI (fun sa i z => ∃ Hi, (Ext μ H3 μ Hi ∧ RSt X.K Hi μ st) ∧ At X { s2 with heap := h3, toks := tk } H3 cenv.locals fp tn h'.objs.size go s2.gens.size S sa i Hi z) ?_ ?_ ?_ ?_ T1 (by rw [csc]; exact okg.co) ?_ (Array.getElem?_push_size ..)
      · rintro sa i z ⟨Hi, hw, at_⟩
        refine ⟨⟨toGen _ at_.gen, I3.mod.nolimit.keeps fun b u e => at_.un.keep b u (I3.bk b u e) (I3.bs b u e).2 (bstk b u e) (fpb b u e), at_.bare, ⟨_, Array.getElem?_eq_getElem at_.gens⟩, Sge _ (by rw [h5sz]; exact Nat.lt_succ_self _), Sge _ (by rw [h5sz, hsz]; exact Nat.lt_of_lt_of_le csl (by omega))⟩, at_.young, Hi, hw, at_.un, at_.hok, at_.bare, at_.os⟩
      · rintro sa i z y ⟨Hi, hw, at_⟩ gr
        refine ⟨Hi, hw, ?_, ?_, at_.loc, at_.fpn, ?_, ?_, gr.bare, gr.os.trans at_.os, ?_, at_.genn, fun b e => ?_, Nat.lt_of_lt_of_le at_.gens gr.gens, fun _ _ _ _ e => e⟩
        · have u := at_.un
          exact ⟨fun b ob e n hf hx => gr.heap b ob (Sh3 b ob e) (u.keep b ob e n hf hx), fun b ob e n hf hx => let ⟨sl, q⟩ := u.slot b ob e n hf hx; ⟨sl, gr.heap b _ (Sh3 b ob e) q⟩, u.free, fun b ob e hx => let ⟨o2, q⟩ := u.there b ob e hx; ⟨o2, gr.heap b _ (Sh3 b ob e) q⟩, u.tups, u.frzs, u.tbls⟩
        · intro b ob e
          refine (at_.hok b ob e).stay (fun d v hd q => gr.heap d v (fun z => ?_) q) (fun _ q => q) fun _ _ q => q
          obtain ⟨_, _, _, hn, _⟩ := at_.own d z
          rcases hd with hd | hd
          · rw [← hd, hn] at e; cases e
          · rw [hn] at hd; cases hd
        · exact TR.keep _ _ _ at_.tn fun b hb ob e => gr.heap b ob (Sh3 b _ (TR.obj _ _ htn3 b hb).choose_spec.1) e
        · obtain ⟨m, hm⟩ := at_.ns
          exact ⟨m, hm.at' fun ob e => gr.heap _ ob (Sge _ (by rw [cloc, h5sz, hsz]; exact Nat.lt_of_lt_of_le (Nat.lt_succ_self _) (Nat.le_succ _))) e⟩
        · exact gr.heap _ _ (Sge _ (by rw [h5sz]; exact Nat.lt_succ_self _)) at_.gen
        · obtain ⟨o1, _, _, hn, hf, hc⟩ := at_.own b e
          obtain ⟨o2, q1, q2⟩ := gr.own b e
          exact ⟨o2, q1, q2, hn, hf, hc⟩
      · intro z gr
        have kz : ∀ b u, h3.get? b = some u → z.heap.get? b = some u := fun b u e => gr.heap b u (Sh3 b u e) (kp b u e)
        refine ⟨H3, ⟨Ext.refl _ _, r3⟩, un5 z kz, fun b ob e => (I3.hok b ob e).stay (fun d v _ q => kz d v q) (fun _ q => q) fun _ _ q => q, I3.hok.fresh (by rw [cloc]; exact Nat.le_refl _), fun b hb => (hfp3 b hb).1, TR.keep _ _ _ htn3 fun b hb ob e => kz b ob e, ?_, gr.bare, gr.os, ?_, I3.hok.fresh (by show h3.objs.size ≤ _; rw [hsz]; exact Nat.le_succ _), fun b e => ?_, ?_, fun _ _ _ _ e => e⟩
        · refine ⟨_, Heap.Ns.at' (by rw [cloc]; exact hn'.push go) fun ob e => gr.heap _ ob (Sge _ (by rw [cloc, h5sz, hsz]; exact Nat.lt_of_lt_of_le (Nat.lt_succ_self _) (Nat.le_succ _))) e⟩
        · exact gr.heap _ _ (Sge _ (by rw [h5sz]; exact Nat.lt_succ_self _)) gg
        · obtain ⟨o2, q1, q2⟩ := gr.own b e
          obtain ⟨l1, l2⟩ := Slt b e
          exact ⟨o2, q1, q2, I3.hok.fresh l1, nostk b l1, by rw [cloc]; exact l2⟩
        · exact Nat.lt_of_lt_of_le (by rw [Array.size_push]; exact Nat.lt_succ_self _) gr.gens
      · rintro A' sa z Q3 ⟨Hi, hw, at_⟩ hq
        exact TR.self A' 0 z Q3 _ at_.tn hq
      · exact ⟨gen5, I3.nolimit.keeps kp, I3.bare.push rfl, ⟨_, Array.getElem?_push_size ..⟩, Sge _ (by rw [h5sz]; exact Nat.lt_succ_self _), Sge _ (by rw [h5sz, hsz]; exact Nat.lt_of_lt_of_le csl (by omega))⟩
    · obtain ⟨j, hj, v, rv, d, hd, hI⟩ := hy
      rw [range_passing] at hj
      obtain ⟨q1, q2⟩ := List.getElem?_eq_some_iff.mp hj
      rw [List.getElem_range] at q2
      subst q2
      exact ⟨v, d, rv, hd, hI⟩
    · obtain ⟨Hn, ⟨xn, rn⟩, un, hok, hb, hos⟩ : Fine X { s2 with heap := h3, toks := tk } H3 fp (fun Hi => Ext μ H3 μ Hi ∧ RSt X.K Hi μ st) y := hy.elim id id
      exact ⟨Hn, I3.call' hos un hok hb fun b hbf => ⟨(hfp3 b hbf).2.2.2.1, (hfp3 b hbf).2.1, (hfp3 b hbf).2.2.2.2.1, (hfp3 b hbf).2.2.2.2.2⟩, hT Hn (x3.trans xn) rn⟩
  cases hf : codeAmong gp ps.toList with
  | none =>
    refine wpAny_genexprCodeX hcode (cd.code hPs ht) (cd.tab hPs) hf fun c' h' tk hx hge hlt hco' _ htab' _ => ?_
    obtain ⟨o1, vs1, f1, tf, fl, tg1, inF, tx, tt, op, _, _, _, _, _, _, _, _, _, htr, _⟩ := hco'
    exact cont _ h' tk _ hx (Nat.le_trans hge (Nat.le_of_lt hlt)) htab'.2 htr
  | some cv =>
    refine wpAny_genexprCode_hit hcode (cd.code hPs ht) hf ?_
    exact cont cv s2.heap s2.toks #[] (Heap.ExtBut.refl _ _) (Nat.le_refl _) (by simpa using hPs) (by simpa using ht)

/-! ### sum, all, any -/
theorem intsD_at : ∀ {vs : List D} {is : List Int}, intsD vs = some is → is.length = vs.length ∧ ∀ (i : Nat) (d : D), vs[i]? = some d → ∃ j, d = .int j ∧ is[i]? = some j
  | [], is, h => by cases h; exact ⟨rfl, fun (i : Nat) d e => by simp at e⟩
  | d :: ds, is, h => by
    cases d with
    | int j =>
      unfold intsD at h
      cases e : intsD ds with
      | none => rw [e] at h; cases h
      | some js =>
        rw [e] at h
        cases h
        obtain ⟨l, q⟩ := intsD_at e
        refine ⟨by rw [List.length_cons, List.length_cons, l], fun i x e => ?_⟩
        cases i with
        | zero => cases e; exact ⟨j, rfl, rfl⟩
        | succ i => exact q i x e
    | _ => cases h
theorem blsD_at : ∀ {vs : List D} {is : List Bool}, blsD vs = some is → is.length = vs.length ∧ ∀ (i : Nat) (d : D), vs[i]? = some d → ∃ j, d = .bl j ∧ is[i]? = some j
  | [], is, h => by cases h; exact ⟨rfl, fun (i : Nat) d e => by simp at e⟩
  | d :: ds, is, h => by
    cases d with
    | bl j =>
      unfold blsD at h
      cases e : blsD ds with
      | none => rw [e] at h; cases h
      | some js =>
        rw [e] at h
        cases h
        obtain ⟨l, q⟩ := blsD_at e
        refine ⟨by rw [List.length_cons, List.length_cons, l], fun i x e => ?_⟩
        cases i with
        | zero => cases e; exact ⟨j, rfl, rfl⟩
        | succ i => exact q i x e
    | _ => cases h
theorem sumTo_take (is : List Int) : ∀ n, n ≤ is.length → MG.sumTo (fun i => is.getD i 0) n = (is.take n).sum
  | 0, _ => by simp [MG.sumTo]
  | n + 1, h => by
    unfold MG.sumTo
    rw [sumTo_take is n (by omega), List.take_succ, List.getElem?_eq_getElem (by omega), List.sum_append]
    simp [List.getD_eq_getElem?_getD, List.getElem?_eq_getElem (show n < is.length by omega)]
theorem allFrom_drop (bs : List Bool) : ∀ k i, i + k = bs.length → allFrom (fun i => bs.getD i false) k i = (bs.drop i).all id
  | 0, i, h => by rw [List.drop_eq_nil_of_le (by omega)]; rfl
  | k + 1, i, h => by
    have hl : i < bs.length := by omega
    rw [List.drop_eq_getElem_cons hl, List.all_cons, MG.allFrom, allFrom_drop bs k (i + 1) (by omega), List.getD_eq_getElem?_getD, List.getElem?_eq_getElem hl]
    rfl
theorem anyFrom_drop (bs : List Bool) : ∀ k i, i + k = bs.length → anyFrom (fun i => bs.getD i false) k i = (bs.drop i).any id
  | 0, i, h => by rw [List.drop_eq_nil_of_le (by omega)]; rfl
  | k + 1, i, h => by
    have hl : i < bs.length := by omega
    rw [List.drop_eq_getElem_cons hl, List.any_cons, MG.anyFrom, anyFrom_drop bs k (i + 1) (by omega), List.getD_eq_getElem?_getD, List.getElem?_eq_getElem hl]
    rfl
theorem boot_all' : bootBuiltins "all" = some (.builtin "all") := by decide +kernel
theorem boot_any'' : bootBuiltins "any" = some (.builtin "any") := by decide +kernel
theorem boot_sum'' : bootBuiltins "sum" = some (.builtin "sum") := by decide +kernel
/-- what it must tell of its values -/
def ZA : Ag → List D → Prop
  | .sum, vs => ∃ is, intsD vs = some is
  | .all, vs => ∃ bs, blsD vs = some bs
  | .any, vs => ∃ bs, blsD vs = some bs
def TA' (Q : VK) : Ag → List D → Hp → Prop
  | .sum, vs, H => ∀ is, intsD vs = some is → Q (.int is.sum) H
  | .all, vs, H => ∀ bs, blsD vs = some bs → Q (.bl (bs.all id)) H
  | .any, vs, H => ∀ bs, blsD vs = some bs → Q (.bl (bs.any id)) H
noncomputable def genM (ms : MP.Env → Sto → R (List D)) (ik : IK) (g : G) (own : List Nat) (me : MP.Env → Sto → R D) (ag : Ag) : MP.Env → Sto → R D := fun σ st => bnd (ms σ st) fun ds st => match items ik ds st with
    | some (is, _) => (match genL g (MP.wipe σ own) me st is with
      | some vs => agop ag vs st
      | none => none)
    | none => none
theorem agop_of {K : PySem.W.Frag} {F : XK} {μ : List Addr} {H : Hp} {st : Sto} {ag : Ag} {vs : List D} {Q : VK} (h : Aft K F μ H (agop ag vs st) (KD K Q)) : ZA ag vs ∧ ∀ H2, Ext μ H μ H2 → RSt K H2 μ st → TA' Q ag vs H2 := by
  cases ag with
  | sum =>
    have h : Aft K F μ H (match intsD vs with
    | some is => ok (.int is.sum) st
    | none => none) (KD K Q) := h
    split at h
    · rename_i is e
      refine ⟨⟨is, e⟩, fun H2 x hs is2 e2 => ?_⟩
      rw [e] at e2; cases e2
      exact h.ok x hs _ rfl
    · exact h.none.elim
  | all =>
    have h : Aft K F μ H (match blsD vs with
    | some bs => ok (.bl (bs.all id)) st
    | none => none) (KD K Q) := h
    split at h
    · rename_i is e
      refine ⟨⟨is, e⟩, fun H2 x hs is2 e2 => ?_⟩
      rw [e] at e2; cases e2
      exact h.ok x hs _ rfl
    · exact h.none.elim
  | any =>
    have h : Aft K F μ H (match blsD vs with
    | some bs => ok (.bl (bs.any id)) st
    | none => none) (KD K Q) := h
    split at h
    · rename_i is e
      refine ⟨⟨is, e⟩, fun H2 x hs is2 e2 => ?_⟩
      rw [e] at e2; cases e2
      exact h.ok x hs _ rfl
    · exact h.none.elim
def agS : Ag → String
  | .sum => "sum"
  | .all => "all"
  | .any => "any"
theorem ready_call {vs : List D} {ag : Ag} {pins : List (Addr × Obj)} {σ : L2.St} {Q : VK} {a : Addr} {s5 : Shared} (hZ : ZA ag vs) (hR : ReadyG X pins σ vs (TA' Q ag vs) a s5) : wpAny (model X.prog X.w) X.A (PySem.call (.builtin (agS ag)) [.ref a]) (EP X pins σ Q) X.xe s5 := by
  obtain ⟨gi, hgen, hW⟩ := hR
  cases ag with
  | sum =>
    obtain ⟨is, e⟩ := hZ
    obtain ⟨l, q⟩ := intsD_at e
    obtain ⟨P, St, Dn, En, W, h0, hP, hD⟩ := hW _ (.inr rfl)
    refine call_sumI (wpAny_pyIter_gen hgen ⟨a, vs.length, P, St, Dn, En, fun i => is.getD i 0, rfl, W, h0, fun i y hy => ?_, fun y t hy => ?_⟩)
    · obtain ⟨v, d, rv, hd, hI⟩ := hP i y hy
      obtain ⟨j, rfl, hj⟩ := q i d hd
      rw [hI.1 j rfl] at rv
      obtain ⟨t, e⟩ := rv
      exact ⟨t, by rw [e]; show Value.int j t = Value.int (is.getD i 0) t; rw [List.getD_eq_getElem?_getD, hj]; rfl⟩
    · obtain ⟨H2, J, hT⟩ := hD y (.inl hy)
      have q := hT is e
      refine ⟨.int is.sum, H2, J, ⟨t, ?_⟩, q⟩
      rw [← l, sumTo_take is is.length (Nat.le_refl _), List.take_length]
  | all =>
    obtain ⟨bs, e⟩ := hZ
    obtain ⟨l, q⟩ := blsD_at e
    obtain ⟨P, St, Dn, En, W, h0, hP, hD⟩ := hW _ (.inl rfl)
    refine call_allI (wpAny_pyIter_gen hgen ⟨a, vs.length, P, St, Dn, En, fun i => bs.getD i false, rfl, W, h0, fun i y hy => ?_, fun y hy => ?_⟩)
    · obtain ⟨v, d, rv, hd, hI⟩ := hP i y hy
      obtain ⟨j, rfl, hj⟩ := q i d hd
      rw [hI.2 j rfl] at rv
      rw [show y = _ from rv]
      show Value.bool j = Value.bool (bs.getD i false)
      rw [List.getD_eq_getElem?_getD, hj]; rfl
    · obtain ⟨H2, J, hT⟩ := hD y hy
      have q := hT bs e
      rw [← l, allFrom_drop bs _ 0 (Nat.zero_add _), List.drop_zero]
      exact ⟨.bl _, H2, J, rfl, q⟩
  | any =>
    obtain ⟨bs, e⟩ := hZ
    obtain ⟨l, q⟩ := blsD_at e
    obtain ⟨P, St, Dn, En, W, h0, hP, hD⟩ := hW _ (.inl rfl)
    refine call_anyI (wpAny_pyIter_gen hgen ⟨a, vs.length, P, St, Dn, En, fun i => bs.getD i false, rfl, W, h0, fun i y hy => ?_, fun y hy => ?_⟩)
    · obtain ⟨v, d, rv, hd, hI⟩ := hP i y hy
      obtain ⟨j, rfl, hj⟩ := q i d hd
      rw [hI.2 j rfl] at rv
      rw [show y = _ from rv]
      show Value.bool j = Value.bool (bs.getD i false)
      rw [List.getD_eq_getElem?_getD, hj]; rfl
    · obtain ⟨H2, J, hT⟩ := hD y hy
      have q := hT bs e
      rw [← l, anyFrom_drop bs _ 0 (Nat.zero_add _), List.drop_zero]
      exact ⟨.bl _, H2, J, rfl, q⟩
theorem agOf_boot {f : Str} {ag : Ag} (h : agOf f = some ag) : bootBuiltins f = some (.builtin (agS ag)) ∧ f ≠ "__name__" := by
  unfold agOf at h
  split at h
  · rename_i e; cases h; subst e; exact ⟨boot_sum'', by decide⟩
  · split at h
    · rename_i e; cases h; subst e; exact ⟨boot_all', by decide⟩
    · split at h
      · rename_i e; cases h; subst e; exact ⟨boot_any'', by decide⟩
      · cases h
theorem sE_gen {f : Str} {ag : Ag} {p pos : Pos} (o : Okc k c C E X) (hag : agOf f = some ag) (hm : X.mg f = none) (hg : Gl X f) (hd : (f == ("__debug__" : Str)) = false) (hgen : c.gen = true) (okg : GenOk X.N X.env.scope scope) (hi : PI X tg iter (rdI X.K E ms ik)) (hsl : ∀ j ∈ gsl g, j ∈ (ownOf X.N scope).map (·.2))
    (hG : ∀ Y : Cx, Okc k (c.gx scope) C (kE E0) Y → PG Y tg (rdG Y.K (gsl g) (asgG g))) (hE : ∀ Y : Cx, Okc k (c.gx scope) C (kE E0) Y → PE Y elt (rdE Y.K (kE E0) me)) (hfold : ∀ v, genFold iter X.env v = pure v) :
    PE X (.Call (.Name f p) [.GeneratorExp elt [⟨tg, iter, [], 0⟩] scope gp] [] pos) (rdE X.K E (genM ms ik g ((ownOf X.N scope).map (·.2)) me ag)) := by
  refine ⟨fun pins s σ H Q I h => ?_⟩
  obtain ⟨hb, hn⟩ := agOf_boot hag
  have he : starEach [.GeneratorExp elt [⟨tg, iter, [], 0⟩] scope gp] X.env = (false, eval (.GeneratorExp elt [⟨tg, iter, [], 0⟩] scope gp) X.env) :: starEach [] X.env := by rfl
  refine wpAny_Call_Name_kw (ld_blt I hg hm hb ?_ hn hd)
  refine PyProof.Rows.callWith_builtin1 ?_ he (by rfl)
  rw [he]
  show wpAny _ _ (spliced ((false, eval (.GeneratorExp elt [⟨tg, iter, [], 0⟩] scope gp) X.env) :: backTo pos (starEach [] X.env))) _ _ s
  refine Calls.spliced_cons (gen_make (T := TA' Q ag) (Z := ZA ag) o hgen okg hi hsl hG hE hfold I ?_ fun vs a s5 hZ hR => ?_)
  · obtain ⟨μ, env, st, hs, he, h⟩ := h
    refine ⟨μ, env, st, hs, he, h.bnd.imp fun ds st1 μ1 H1 x1 hs1 h1 => ?_⟩
    split at h1
    · rename_i is gd e1
      split at h1
      · rename_i vs e2
        obtain ⟨z1, z2⟩ := agop_of h1
        exact ⟨is, gd, e1, fun J W => ⟨vs, μ1, st1, is.length, z1, ⟨hs1, env, is, gd, he.mono x1, items_held e1, W, e2, rfl⟩, z2⟩⟩
      · exact h1.none.elim
    · exact h1.none.elim
  · refine Calls.spliced_nil ?_
    exact ready_call hZ hR
end
theorem fold_of {iter : Expr} {env : PySem.Env} (h : genIter iter = true) (v : Value) : genFold iter env v = pure v := by
  unfold genFold
  cases iter <;> first | rfl | cases h
theorem stepGen {n : Nat} (ih : All n) : SGen (n + 1) := by
  intro k c C E X f ag elt gens scope t gp p pos o h1 h2 h3 h4 h5 h
  unfold cGen at h
  obtain ⟨hb, hA⟩ := if_some h
  clear h
  have okg : GenOk X.N X.env.scope scope := by rw [o.N, o.sc]; exact genOk_by hb
  split at hA
  · rename_i tg it
    split at hA
    · rename_i ik ts g x e1 e2 e3
      obtain ⟨⟨s1, s2⟩, hB⟩ := if_some hA
      clear hA
      cases hB
      obtain ⟨i1, i2⟩ := ih.i (tg := tg) o e1
      have e5 : ev C (.agg ag x g ik ts ((ownOf c.N scope).map (·.2))) = genM (evs C ts) ik g ((ownOf X.N scope).map (·.2)) (ev C x) ag := by rw [o.N]; funext σ st; rw [ev] <;> rfl
      rw [e5]
      exact sE_gen o h1 h2 h3 h4 h5 okg i1 (by rw [o.N]; exact fun j hj => of_decide_eq_true (List.all_eq_true.mp s1 j hj)) (fun Y oy => cG_ok n oy e2) (fun Y oy => ih.e oy e3) (fold_of s2)
    · cases hA
  · cases hA
end MP

set_option Elab.async false
set_option linter.all false
set_option maxRecDepth 100000
set_option maxHeartbeats 4000000
namespace MP
open PySem PySem.Spec PyProof.Rows L2
variable [Gb]

def mtTy (m : Mt) : String := if mtStr m = true then "str" else "list"
theorem mtTy_pl (m : Mt) : PlainAttrs (mtTy m) := by
  unfold mtTy
  split
  · exact PySem.F.plainAttrs_str
  · exact PySem.F.plainAttrs_list
theorem ite_or {α : Type} {c : Prop} {_ : Decidable c} {a b : Option α} {x : α} (h : (if c then a else b) = some x) : (c ∧ a = some x) ∨ (¬c ∧ b = some x) := by
  by_cases q : c
  · rw [if_pos q] at h; exact .inl ⟨q, h⟩
  · rw [if_neg q] at h; exact .inr ⟨q, h⟩
theorem mtOf_ok {x : Str} {n : Nat} {m : Mt} (h : mtOf x n = some m) : ∃ s : String, x = Str.ofString s ∧ Slot (mtTy m) (Str.ofString s) (mtId m) ∧ typeOf (.builtin (mtId m)) = pure (.type "method_descriptor") := by
  unfold mtOf at h
  rcases ite_or h with ⟨e, h⟩ | ⟨_, h⟩
  · cases h; obtain ⟨rfl, rfl⟩ := e; exact ⟨"append", rfl, PySem.F.slot_list_append, PySem.F.type_list_append⟩
  rcases ite_or h with ⟨e, h⟩ | ⟨_, h⟩
  · cases h; obtain ⟨rfl, rfl⟩ := e; exact ⟨"pop", rfl, PySem.F.slot_list_pop, PySem.F.type_list_pop⟩
  rcases ite_or h with ⟨e, h⟩ | ⟨_, h⟩
  · cases h; obtain ⟨rfl, rfl⟩ := e; exact ⟨"reverse", rfl, PySem.F.slot_list_reverse, PySem.F.type_list_reverse⟩
  rcases ite_or h with ⟨e, h⟩ | ⟨_, h⟩
  · cases h; obtain ⟨rfl, rfl⟩ := e; exact ⟨"extend", rfl, PySem.F.slot_list_extend, PySem.F.type_list_extend⟩
  rcases ite_or h with ⟨e, h⟩ | ⟨_, h⟩
  · cases h; obtain ⟨rfl, rfl⟩ := e; exact ⟨"pop", rfl, PySem.F.slot_list_pop, PySem.F.type_list_pop⟩
  rcases ite_or h with ⟨e, h⟩ | ⟨_, h⟩
  · cases h; obtain ⟨rfl, rfl⟩ := e; exact ⟨"startswith", rfl, PySem.F.slot_str_startswith, PySem.F.type_str_startswith⟩
  rcases ite_or h with ⟨e, h⟩ | ⟨_, h⟩
  · cases h; obtain ⟨rfl, rfl⟩ := e; exact ⟨"endswith", rfl, PySem.F.slot_str_endswith, PySem.F.type_str_endswith⟩
  rcases ite_or h with ⟨e, h⟩ | ⟨_, h⟩
  · cases h; obtain ⟨rfl, rfl⟩ := e; exact ⟨"lstrip", rfl, PySem.F.slot_str_lstrip, PySem.F.type_str_lstrip⟩
  rcases ite_or h with ⟨e, h⟩ | ⟨_, h⟩
  · cases h; obtain ⟨rfl, rfl⟩ := e; exact ⟨"index", rfl, PySem.F.slot_str_index, PySem.F.type_str_index⟩
  rcases ite_or h with ⟨e, h⟩ | ⟨_, h⟩
  · cases h; obtain ⟨rfl, rfl⟩ := e; exact ⟨"find", rfl, PySem.F.slot_str_find, PySem.F.type_str_find⟩
  rcases ite_or h with ⟨e, h⟩ | ⟨_, h⟩
  · cases h; obtain ⟨rfl, rfl⟩ := e; exact ⟨"isdigit", rfl, PySem.F.slot_str_isdigit, PySem.F.type_str_isdigit⟩
  rcases ite_or h with ⟨e, h⟩ | ⟨_, h⟩
  · cases h; obtain ⟨rfl, rfl⟩ := e; exact ⟨"split", rfl, PySem.F.slot_str_split, PySem.F.type_str_split⟩
  rcases ite_or h with ⟨e, h⟩ | ⟨_, h⟩
  · cases h; obtain ⟨rfl, rfl⟩ := e; exact ⟨"join", rfl, PySem.F.slot_str_join, PySem.F.type_str_join⟩
  cases h
section
variable {k : Nat} {c : CC} {C : CalT} {E : L2.St → XK} {X : Cx}
theorem isLst_ty {K : PySem.W.Frag} {μ : List Addr} {H : Hp} {st : Sto} {x : D} {v : V} (hs : RSt K H μ st) (r : RD K H μ x v) (h : isLst x st = true) : tyV K "list" v H := by
  unfold isLst at h
  split at h
  · split at h
    · rename_i e
      obtain ⟨a, rfl, ha⟩ := r
      obtain ⟨a', ha', vs, h1, h2⟩ := hs.get e
      rw [ha] at ha'; cases ha'
      exact .inl ⟨rfl, vs, .of h1⟩
    · cases h
  · cases h
theorem few_of {es : List Expr} {pos : Pos} {env : PySem.Env} (h : es.all notStar = true) (hl : es.length < 20) : ((backTo pos (starEach es env)).all (fun x => !x.1) && (backToKw pos (keywordEach [] env)).all (fun x => x.1.isSome)
      && decide (es.length + ([] : List Keyword).length + (if ([] : List Keyword).isEmpty then 0 else 1) < 30)) = true := by
  have h1 : (backTo pos (starEach es env)).all (fun x => !x.1) = true := by
    induction es with
    | nil => rfl
    | cons e es ih =>
      obtain ⟨h1, h2⟩ := Bool.and_eq_true_iff.mp (show (notStar e && es.all notStar) = true from h)
      rw [star_of h1]
      show (true && _) = true
      rw [Bool.true_and]
      exact ih h2 (by rw [List.length_cons] at hl; omega)
  have h2 : decide (es.length + ([] : List Keyword).length + (if ([] : List Keyword).isEmpty then 0 else 1) < 30) = true := decide_eq_true (by
    show es.length + 0 + 0 < 30
    omega)
  rw [h1, h2]
  rfl
theorem recv_ty {K : PySem.W.Frag} {μ : List Addr} {H : Hp} {st : Sto} {m : Mt} {x : D} {v : V} (hs : RSt K H μ st) (r : RD K H μ x v) (h : mtRecv m x st = true) : tyV K (mtTy m) v H := by
  unfold mtRecv at h
  unfold mtTy
  split at h
  · rename_i e
    rw [if_pos e]
    cases x <;> first
      | (rw [show v = _ from r]; exact rfl)
      | cases h
  · rename_i e
    rw [if_neg e]
    exact isLst_ty hs r h
/-- a method of a list -/
theorem sE_mt {o : Expr} {es : List Expr} {ap cp : Pos} {m : Mt} {nm : Str} {mo : Env → Sto → R D} {ms : Env → Sto → R (List D)} (hsl : Slot (mtTy m) nm (mtId m)) (hty : typeOf (.builtin (mtId m)) = pure (.type "method_descriptor")) (hr : recvB o = true) (hl : (ap.endLine == cp.line) = true) (hn : es.length < 20) (hst : es.all notStar = true)
    (ho : PE X o (rdE X.K E mo)) (ha : PA X es (rdA X.K E ms)) (hne : es = [] → ms = fun _ st => ok [] st) :
    PE X (.Call (.Attribute o nm ap) es [] cp) (rdE X.K E fun σ st => bnd (mo σ st) fun x st => if mtRecv m x st = true then bnd (ms σ st) fun ds st => mtop m x ds st else none) := by
  cases es with
  | nil =>
    refine imE (pe_bm0 (mtTy_pl m) hsl hty (rMt_ok m) ho (recv_of hr) hl) fun σ H Q h => ?_
    obtain ⟨μ, env, st, hs, he, h⟩ := h
    refine ⟨μ, env, st, hs, he, h.bnd.imp fun d st1 μ1 H1 x1 hs1 h1 v rv => ?_⟩
    obtain ⟨c, h1⟩ := h1.ite
    rw [hne rfl, bnd_ok] at h1
    exact ⟨recv_ty hs1 rv c, rMt_of hs1 rv RDs.nil h1⟩
  | cons e es =>
    obtain ⟨h1, h2⟩ := Bool.and_eq_true_iff.mp (show (notStar e && es.all notStar) = true from hst)
    refine imE (pe_bm (mtTy_pl m) hsl hty (rMt_ok m) ho ha (recv_of hr) (few_of hst hn) hl (star_of h1) (plain_star h2)) fun σ H Q h => ?_
    obtain ⟨μ, env, st, hs, he, h⟩ := h
    refine ⟨μ, env, st, hs, he, h.bnd.imp fun d st1 μ1 H1 x1 hs1 h1 v rv => ?_⟩
    obtain ⟨c, h1⟩ := h1.ite
    exact ⟨recv_ty hs1 rv c, μ1, env, st1, hs1, he.mono x1, h1.bnd.imp fun ds st2 μ2 H2 x2 hs2 h2 vs rs => rMt_of hs2 (rv.mono x2.mono x2.pre) rs h2⟩
end
theorem subL_of {a b : List Nat} (h : subL a b = true) : ∀ j ∈ a, j ∈ b := fun j hj => of_decide_eq_true (List.all_eq_true.mp h j hj)
theorem stepComp {n : Nat} (ih : All n) : SComp (n + 1) := by
  intro k c C E X elt gens scope t pos o h
  unfold cComp at h
  obtain ⟨hb, hA⟩ := if_some h
  clear h
  have okb : BlkOk X.N X.env.scope scope (ownOf c.N scope) := by rw [o.N, o.sc]; exact blkOk_by hb
  have ob : ∀ (s : Shared) (H : Hp) (Ca : Addr) (cl : List (Str × Addr)) (fp : List Addr), Okc k (c.blk scope) C (kE E0) (X.blk s H scope (compEnvC scope cl Ca X.env) fp) := fun s H Ca cl fp => o.blk okb.kind
  split at hA
  · rename_i tg it ifs
    split at hA
    · rename_i k ts g cs x e1 e2 e3 e4
      obtain ⟨h1, hB⟩ := if_some hA
      clear hA
      cases hB
      obtain ⟨i1, i2⟩ := ih.i (tg := tg) o e1
      have e5 : ev C (.comp x g k ts cs ((ownOf c.N scope).map (·.2))) = compM (evs C ts) k g ((ownOf c.N scope).map (·.2)) (itemM (evc C cs) (ev C x)) := by funext σ st; rw [ev] <;> rfl
      rw [e5]
      refine ⟨sE_comp rfl o.calm o.nd' i1 okb (subL_of h1) (fun s H Ca cl fp => cG_ok n (ob s H Ca cl fp) e2) (fun s H Ca cl fp => ih.c (ob s H Ca cl fp) e3) (fun s H Ca cl fp => ih.e (ob s H Ca cl fp) e4) (folded_of i2), fun {F} hF {i y py spos} hy hyl hsw => ?_⟩
      subst hF
      exact sS_setComp rfl o.calm o.nd' hy hyl hsw i1 okb (subL_of h1) (fun s H Ca cl fp => cG_ok n (ob s H Ca cl fp) e2) (fun s H Ca cl fp => ih.c (ob s H Ca cl fp) e3) (fun s H Ca cl fp => ih.e (ob s H Ca cl fp) e4) (folded_of i2)
    · cases hA
  · rename_i tg it ifs tg1 it1 ifs1
    split at hA
    · rename_i k ts g cs x k1 ts1 g1 cs1 e1 e2 e3 e4 e6 e7 e8
      obtain ⟨⟨h1, h2⟩, hB⟩ := if_some hA
      clear hA
      cases hB
      obtain ⟨i1, i2⟩ := ih.i (tg := tg) o e1
      have e5 : ev C (.comp2 x g k ts cs g1 k1 ts1 cs1 ((ownOf c.N scope).map (·.2)) (gsl g1)) = compM (evs C ts) k g ((ownOf c.N scope).map (·.2)) (item2M (evc C cs) (evs C ts1) k1 g1 (gsl g1) (itemM (evc C cs1) (ev C x))) := by funext σ st; rw [ev] <;> rfl
      rw [e5]
      have ii := fun (s : Shared) (H : Hp) (Ca : Addr) (cl : List (Str × Addr)) (fp : List Addr) => ih.i (tg := tg1) (ob s H Ca cl fp) e6
      have i4 : notSet it1 = true := (ii ⟨X.s_0.heap, X.s_0.gens, X.s_0.drawn, X.s_0.toks, X.s_0.os⟩ (fun _ => none) 0 [] []).2
      refine ⟨sE_comp2 rfl rfl o.calm o.nd' i1 okb (subL_of h2) (subL_of h1) (fun _ h => h) (fun s H Ca cl fp => cG_ok n (ob s H Ca cl fp) e2) (fun s H Ca cl fp => ih.c (ob s H Ca cl fp) e3) (fun s H Ca cl fp => (ii s H Ca cl fp).1) (fun s H Ca cl fp => cG_ok n (ob s H Ca cl fp) e7) (fun s H Ca cl fp => ih.c (ob s H Ca cl fp) e8) (fun s H Ca cl fp => ih.e (ob s H Ca cl fp) e4) (folded_of i2) (fun env => folded_of i4), fun {F} hF {i y py spos} hy hyl hsw => ?_⟩
      subst hF
      exact sS_setComp2 rfl rfl o.calm o.nd' hy hyl hsw i1 okb (subL_of h2) (subL_of h1) (fun _ h => h) (fun s H Ca cl fp => cG_ok n (ob s H Ca cl fp) e2) (fun s H Ca cl fp => ih.c (ob s H Ca cl fp) e3) (fun s H Ca cl fp => (ii s H Ca cl fp).1) (fun s H Ca cl fp => cG_ok n (ob s H Ca cl fp) e7) (fun s H Ca cl fp => ih.c (ob s H Ca cl fp) e8) (fun s H Ca cl fp => ih.e (ob s H Ca cl fp) e4) (folded_of i2) (fun env => folded_of i4)
    · cases hA
  · cases hA
/-! ### fields, slices -/
section
variable {E : L2.St → XK} {X : Cx} {e a lo hi : Expr} {pos p2 : Pos} {m ma mb mc : Env → Sto → R D}
theorem sE_fld {f : Str} (he : PE X e (rdE X.K E m)) (hb : attributeBase e f X.env (eval e X.env) = eval e X.env) : PE X (.Attribute e f pos) (rdE X.K E fun σ st => bnd (m σ st) fun x st => fldop f x st) :=
  imE (pe_fld he hb) fun σ H Q ⟨μ, env, st, hs, he, h⟩ => by
    refine ⟨μ, env, st, hs, he, h.bnd.imp fun d st1 μ1 H1 x1 hs1 h1 v rv => ?_⟩
    unfold fldop at h1
    obtain ⟨n, cl, fs, a, dx, vs, rfl, e1, rfl, ha1, hH, rf, hcl, hna, hgb, h2⟩ := ins_of hs1 rv h1
    split at h2
    · rename_i d e2
      obtain ⟨v, e3, r3⟩ := rf.get e2
      obtain ⟨p, hp, rfl⟩ := mem_lookup_ e2
      exact ⟨a, _, dx, vs, v, rfl, hH, hcl, hna p hp, e3, h2.val hs1 r3⟩
    · exact h2.none.elim
theorem sIx_eq0 (n : Nat) : HT.sIx n 0 none = 0 := rfl
theorem sIx_eqn (n : Nat) : HT.sIx n n none = n := rfl
theorem sIx_eq (n d : Nat) (i : Int) : HT.sIx n d (some i) = sIx n i := by
  unfold HT.sIx sIx
  by_cases h : i < 0
  · simp only [h, if_true] <;> omega
  · simp only [h, if_false] <;> omega
def rSl (K : PySem.W.Frag) : V → Option Int → Option Int → Hp → VK → Prop := fun x lo hi H Q => (rSlL K x lo hi H Q ∨ rSlA K x lo hi H Q) ∨ rSlS x lo hi H Q
theorem rSl_ok : SlR X (rSl X.K) := (sl_list.or sl_tupA).or sl_str
theorem loN_eq (n : Nat) (o : Option Int) : HT.sIx n 0 o = loN n o := by cases o <;> first | rfl | exact sIx_eq _ _ _
theorem hiN_eq (n : Nat) (o : Option Int) : HT.sIx n n o = hiN n o := by cases o <;> first | rfl | exact sIx_eq _ _ _
theorem RDs.cutN {K : PySem.W.Frag} {H : Hp} {μ : List Addr} {ds : List D} {vs : List V} (r : RDs K H μ ds vs) (i j : Option Int) : RDs K H μ (cutD ds i j) (cutV vs i j) := by
  unfold cutD cut cutV
  rw [loN_eq, hiN_eq, r.length]
  exact (r.drop _).take _
theorem cutT_eq (z : Str) (i j : Option Int) : cutS z i j = cutT z i j := by
  unfold cutS cutT cutD cut
  rw [loN_eq, hiN_eq, Array.length_toList] <;> rfl
theorem slD_of {K : PySem.W.Frag} {F : XK} {μ : List Addr} {H : Hp} {st : Sto} {Q : VK} {x : D} {v : V} {i j : Option Int} (hs : RSt K H μ st) (rx : RD K H μ x v) (h : Aft K F μ H (sliceD i j x st) (KD K Q)) : rSl K v i j H Q := by
  unfold sliceD at h
  split at h
  · split at h
    · rename_i e
      obtain ⟨a, rfl, ha⟩ := rx
      obtain ⟨a', ha', vs, h1, h2⟩ := hs.get e
      rw [ha] at ha'; cases ha'
      exact .inl (.inl ⟨a, vs, rfl, .of h1, fun p hp => alloc_of hs (h2.cutN i j) hp h⟩)
    · exact h.none.elim
  · rename_i ds
    obtain ⟨a, vs, rfl, h1, h2⟩ := rx
    refine .inl (.inr ⟨a, vs, rfl, h1, fun c => ?_, fun c p hp => ?_⟩)
    · obtain ⟨c1, c2⟩ := c
      rw [loN_eq, h2.length] at c1
      rw [hiN_eq, h2.length] at c2
      have e : cutD ds i j = ds := by
        unfold cutD cut
        rw [c1, c2]; simp
      rw [e] at h
      exact h.val hs ⟨a, vs, rfl, h1, h2⟩
    · exact h.ok (Ext.newO hp) (hs.new hp) _ ⟨p, _, rfl, .of upd_same, (h2.cutN i j).mono (Mono.new hp) (List.prefix_refl _)⟩
  · rename_i z
    obtain ⟨hl, h⟩ := h.ite
    rw [show v = _ from rx]
    exact .inr ⟨z, rfl, by rw [← line_eq]; exact hl, h.val hs (by rw [cutT_eq]; rfl)⟩
  · exact h.none.elim
theorem slop_of {K : PySem.W.Frag} {F : XK} {μ : List Addr} {H : Hp} {st : Sto} {x : D} {lo hi : Option D} {kk : D → Sto → List Addr → Hp → Prop} (h : Aft K F μ H (slop x lo hi st) kk) : ∃ i j, bd lo = some i ∧ bd hi = some j ∧ Aft K F μ H (sliceD i j x st) kk := by
  unfold slop at h
  split at h
  · rename_i i j e1 e2
    exact ⟨i, j, e1, e2, h⟩
  · exact h.none.elim
theorem bd_some {K : PySem.W.Frag} {H : Hp} {μ : List Addr} {y : D} {v : V} {i : Option Int} (h : bd (some y) = some i) (r : RD K H μ y v) : ∃ n, i = some n ∧ v = .int n := by
  cases y <;> first | (cases h; exact ⟨_, rfl, r⟩) | cases h
theorem sE_slA (ha : PE X a (rdE X.K E ma)) (hl : PE X lo (rdE X.K E mb)) : PE X (.Subscript a (.Slice (some lo) none none p2) pos) (rdE X.K E fun σ st => bnd (ma σ st) fun x st => bnd (mb σ st) fun y st => slop x (some y) none st) :=
  imE (pe_slice rSl_ok ha (po_some hl) po_none) fun σ H Q ⟨μ, env, st, hs, he, h⟩ => by
    refine ⟨μ, env, st, hs, he, h.bnd.imp fun d st1 μ1 H1 x1 hs1 h1 v rv => ?_⟩
    refine ⟨μ1, env, st1, hs1, he.mono x1, h1.bnd.imp fun d2 st2 μ2 H2 x2 hs2 h2 w rw => ?_⟩
    obtain ⟨i, j, e1, e2, h3⟩ := slop_of h2
    obtain ⟨n, rfl, rfl⟩ := bd_some e1 rw
    cases e2
    exact ⟨n, rfl, slD_of hs2 (rv.mono x2.mono x2.pre) h3⟩
theorem sE_slB (ha : PE X a (rdE X.K E ma)) (hl : PE X hi (rdE X.K E mb)) : PE X (.Subscript a (.Slice none (some hi) none p2) pos) (rdE X.K E fun σ st => bnd (ma σ st) fun x st => bnd (mb σ st) fun y st => slop x none (some y) st) :=
  imE (pe_slice rSl_ok ha po_none (po_some hl)) fun σ H Q ⟨μ, env, st, hs, he, h⟩ => by
    refine ⟨μ, env, st, hs, he, h.bnd.imp fun d st1 μ1 H1 x1 hs1 h1 v rv => ?_⟩
    refine ⟨μ1, env, st1, hs1, he.mono x1, h1.bnd.imp fun d2 st2 μ2 H2 x2 hs2 h2 w rw => ?_⟩
    obtain ⟨i, j, e1, e2, h3⟩ := slop_of h2
    obtain ⟨n, rfl, rfl⟩ := bd_some e2 rw
    cases e1
    exact ⟨n, rfl, slD_of hs2 (rv.mono x2.mono x2.pre) h3⟩
theorem sE_slC (ha : PE X a (rdE X.K E ma)) (hl : PE X lo (rdE X.K E mb)) (hh : PE X hi (rdE X.K E mc)) : PE X (.Subscript a (.Slice (some lo) (some hi) none p2) pos) (rdE X.K E fun σ st => bnd (ma σ st) fun x st => bnd (mb σ st) fun y st => bnd (noX (mc σ st)) fun z st => slop x (some y) (some z) st) :=
  imE (pe_slice rSl_ok ha (po_some hl) (po_some hh)) fun σ H Q ⟨μ, env, st, hs, he, h⟩ => by
    refine ⟨μ, env, st, hs, he, h.bnd.imp fun d st1 μ1 H1 x1 hs1 h1 v rv => ?_⟩
    refine ⟨μ1, env, st1, hs1, he.mono x1, h1.bnd.imp fun d2 st2 μ2 H2 x2 hs2 h2 w rw => ?_⟩
    have hty : ∃ n, w = .int n := by
      obtain ⟨y, s', e1, _⟩ := h2
      cases d2 with
      | int n => exact ⟨n, rw⟩
      | _ =>
        exfalso
        cases q : mc env st2 with
        | none => rw [q] at e1; cases e1
        | some p =>
          obtain ⟨y3, s3⟩ := p
          rw [q] at e1
          cases y3 with
          | error er => cases e1
          | ok d3 => cases e1
    obtain ⟨n, rfl⟩ := hty
    refine ⟨n, rfl, μ2, env, st2, hs2, (he.mono x1).mono x2, (Aft.noX h2.bnd).imp fun d3 st3 μ3 H3 x3 hs3 h3 u ru => ?_⟩
    obtain ⟨i, j, e1, e2, h4⟩ := slop_of h3
    obtain ⟨n2, rfl, q⟩ := bd_some e1 rw
    obtain ⟨n3, rfl, rfl⟩ := bd_some e2 ru
    cases q
    exact ⟨n3, rfl, slD_of hs3 ((rv.mono x2.mono x2.pre).mono x3.mono x3.pre) h4⟩
end
theorem stepE {n : Nat} (ih : All n) : SE (n + 1) := by
  intro k c C E X e t o h
  unfold cE at h
  split at h
  · split at h
    · rename_i hc
      obtain ⟨h1, h2⟩ := hc
      obtain ⟨i, e1, rfl⟩ := opt_map h
      obtain ⟨d1, d2⟩ := plainName_of h2
      have e2 : ev C (.v i) = fun σ st => match σ[i]? with
        | some (some d) => ok d st
        | _ => none := by funext σ st; rw [ev] <;> rfl
      rw [e2]
      exact sE_var (o.ix e1) (o.vis h1) d1 d2
    · obtain ⟨⟨h1, h2⟩, h3⟩ := if_some h
      obtain ⟨d, e1, rfl⟩ := opt_map h3
      obtain ⟨u, v, hm, hr, hd⟩ := o.con _ d e1
      have e2 : ev C (.lit d) = fun _ st => ok d st := by funext σ st; rw [ev]
      rw [e2]
      exact sE_lit (pe_glob (o.glo h1) hm hr (plainName_of h2).1) hd
  · obtain ⟨⟨h1, h2⟩, h3⟩ := if_some h
    obtain ⟨x, e1, rfl⟩ := opt_map h3
    have e2 : ∀ f, ev C (.fld x f) = fun σ st => bnd (ev C x σ st) fun a st => fldop f a st := by intro f; funext σ st; rw [ev]
    rw [e2]
    exact sE_fld (ih.e o e1) (recv_of h1)
  · split at h
    · rename_i e1 e2
      cases h
      have e3 : ∀ {x y : T}, ev C (.slA x y) = fun σ st => bnd (ev C x σ st) fun a st => bnd (ev C y σ st) fun b st => slop a (some b) none st := by intro x y; funext σ st; rw [ev]
      rw [e3]
      exact sE_slA (ih.e o e1) (ih.e o e2)
    · cases h
  · split at h
    · rename_i e1 e2
      cases h
      have e3 : ∀ {x y : T}, ev C (.slB x y) = fun σ st => bnd (ev C x σ st) fun a st => bnd (ev C y σ st) fun b st => slop a none (some b) st := by intro x y; funext σ st; rw [ev]
      rw [e3]
      exact sE_slB (ih.e o e1) (ih.e o e2)
    · cases h
  · split at h
    · rename_i e1 e2 e4
      cases h
      have e3 : ∀ {x y z : T}, ev C (.slC x y z) = fun σ st => bnd (ev C x σ st) fun a st => bnd (ev C y σ st) fun b st => bnd (noX (ev C z σ st)) fun d st => slop a (some b) (some d) st := by intro x y z; funext σ st; rw [ev]
      rw [e3]
      exact sE_slC (ih.e o e1) (ih.e o e2) (ih.e o e4)
    · cases h
  · cases h
    have e2 : ∀ {i : Int}, ev C (.int i) = fun _ st => ok (.int i) st := by intro i; funext σ st; rw [ev]
    rw [e2]
    exact sE_lit pe_int fun _ _ => rfl
  · cases h
    have e2 : ∀ {i : Bool}, ev C (.bl i) = fun _ st => ok (.bl i) st := by intro i; funext σ st; rw [ev]
    rw [e2]
    exact sE_lit pe_bl fun _ _ => rfl
  · cases h
    have e2 : ev C .non = fun _ st => ok .non st := by funext σ st; rw [ev]
    rw [e2]
    exact sE_lit pe_non fun _ _ => rfl
  · cases h
    have e2 : ∀ {i : Str}, ev C (.str i) = fun _ st => ok (.str i) st := by intro i; funext σ st; rw [ev]
    rw [e2]
    exact sE_lit pe_str fun _ _ => rfl
  · split at h
    · rename_i e1 e2
      cases h
      have e3 : ∀ {op : Operator} {x y : T}, ev C (.bin op x y) = fun σ st => bnd (ev C x σ st) fun a st => bnd (ev C y σ st) fun b st => binop op a b st := by intro op x y; funext σ st; rw [ev]
      rw [e3]
      exact sE_bin (ih.e o e1) (ih.e o e2)
    · cases h
  · obtain ⟨x, e1, rfl⟩ := opt_map h
    have e3 : ∀ {x : T}, ev C (.neg x) = fun σ st => bnd (ev C x σ st) fun a st => neg a st := by intro x; funext σ st; rw [ev]
    rw [e3]
    exact sE_neg (ih.e o e1)
  · obtain ⟨x, e1, rfl⟩ := opt_map h
    have e3 : ∀ {x : T}, ev C (.not x) = notM (ev C x) := by intro x; funext σ st; rw [ev] <;> rfl
    rw [e3]
    exact sE_not (ih.e o e1)
  · exact pe_one (ih.e o h)
  · split at h
    · rename_i e1 e2
      cases h
      have e3 : ∀ {x y : T}, ev C (.and x y) = andM (ev C x) (ev C y) := by intro x y; funext σ st; rw [ev] <;> rfl
      rw [e3]
      exact sE_and (ih.e o e1) (ih.e o e2)
    · cases h
  · split at h
    · rename_i e1 e2
      cases h
      have e3 : ∀ {x y : T}, ev C (.or x y) = orM (ev C x) (ev C y) := by intro x y; funext σ st; rw [ev] <;> rfl
      rw [e3]
      exact sE_or (ih.e o e1) (ih.e o e2)
    · cases h
  · obtain ⟨h1, h2⟩ := if_some h
    split at h2
    · rename_i e1 e2
      cases h2
      have e3 : ∀ {op : CmpOp} {x y : T}, ev C (.cmp op x y) = fun σ st => bnd (ev C x σ st) fun a st => bnd (ev C y σ st) fun b st => cmpop op a b st := by intro op x y; funext σ st; rw [ev]
      rw [e3]
      exact sE_cmp o.units h1 (ih.e o e1) (ih.e o e2)
    · cases h2
  · obtain ⟨h1, h2⟩ := if_some h
    split at h2
    · rename_i e1 e2 e4
      cases h2
      have e3 : ∀ {p q : CmpOp} {x y z : T}, ev C (.chain p q x y z) = chainM p q (ev C x) (ev C y) (ev C z) := by intro p q x y z; funext σ st; rw [ev] <;> rfl
      rw [e3]
      exact sE_chain o.units h1 (ih.e o e1) (ih.e o e2) (ih.e o e4)
    · cases h2
  · split at h
    · rename_i e1 e2 e4
      cases h
      have e3 : ∀ {x y z : T}, ev C (.ife x y z) = iteM (ev C x) (ev C y) (ev C z) := by intro x y z; funext σ st; rw [ev] <;> rfl
      rw [e3]
      exact sE_ife (ih.t o e1) (ih.e o e2) (ih.e o e4)
    · cases h
  · obtain ⟨h1, h2⟩ := if_some h
    obtain ⟨x, e1, rfl⟩ := opt_map h2
    obtain ⟨a1, a2, a3⟩ := ih.as o e1
    have e3 : ∀ {x : List T}, ev C (.tup x) = fun σ st => bnd (evs C x σ st) fun a st => ok (.tup a) st := by intro x; funext σ st; rw [ev]
    rw [e3]
    exact sE_tup a1 (Nat.le_of_lt (small1000 h1)) fun σ st ds st' z => by rw [evs_len z, a3]
  · obtain ⟨h1, h2⟩ := if_some h
    obtain ⟨x, e1, rfl⟩ := opt_map h2
    obtain ⟨a1, a2, a3⟩ := ih.as o e1
    have e3 : ∀ {x : List T}, ev C (.lst x) = fun σ st => bnd (evs C x σ st) fun a st => alloc (.lst a) st := by intro x; funext σ st; rw [ev]
    rw [e3]
    exact sE_lst a1 (Nat.le_of_lt (small1000 h1)) fun σ st ds st' z => by rw [evs_len z, a3]
  · obtain ⟨h1, h2⟩ := if_some h
    split at h2
    · rename_i e1 e2
      cases h2
      have e3 : ∀ {x y : T}, ev C (.ix x y) = fun σ st => bnd (ev C x σ st) fun a st => bnd (ev C y σ st) fun b st => ixop a b st := by intro x y; funext σ st; rw [ev]
      rw [e3]
      exact sE_ix o.units (plainIx_of h1) (ih.e o e1) (ih.e o e2)
    · cases h2
  · split at h
    · rename_i hc
      obtain ⟨rfl, rfl, h1, h2, h3, h4, h5⟩ := hc
      split at h
      · rename_i xs k e1 e2
        cases h
        obtain ⟨a1, a2, a3⟩ := ih.as o e1
        rename_i as _ _ _ _
        cases as with
        | nil => cases h5
        | cons a as =>
          obtain ⟨st1, st2⟩ := Bool.and_eq_true_iff.mp (show (notStar a && as.all notStar) = true from a2)
          have e3 : ev C (.lrg k xs) = fun σ st => bnd (evs C xs σ st) fun ds st => match items k ds st with
            | some (is, _) => if is.length ≤ LINE then alloc (.lst is) st else none
            | none => none := by funext σ st; rw [ev] <;> rfl
          rw [e3]
          refine sE_lrg ?_ o.calm (o.glo h1) (o.free _ (List.contains_iff_mem.mp h3)) (o.glo h2) (o.free _ (List.contains_iff_mem.mp h4)) a1 (star_of st1) (plain_star st2)
          unfold rngOf at e2
          split at e2 <;> first | (cases e2; rfl) | cases e2
      · cases h
    · exact ih.call o h
  · exact ih.call o h
  · split at h
    · rename_i hms
      obtain ⟨⟨h1, h2, h3⟩, h4⟩ := if_some h
      split at h4
      · rename_i x ys e1 e2
        cases h4
        obtain ⟨a1, a2, a3⟩ := ih.as o e2
        have e3 : ∀ m, ev C (.meth x m ys) = fun σ st => bnd (ev C x σ st) fun x st => insOp x st fun _ cl fs => if fs.lookup m = none then bnd (noX (evs C ys σ st)) fun ds st => C (mkey cl m) (x :: ds) st else none := by intro m; funext σ st; rw [ev]
        rw [e3]
        exact sE_meth o hms h1 h2 h3 a2 (ih.e o e1) a1 fun z => by
          subst z
          have e6 : ys = [] := List.eq_nil_of_length_eq_zero a3
          rw [e6, evs_nil]
      · cases h4
    rename_i hnm
    obtain ⟨⟨h1, h2, h3⟩, h4⟩ := if_some h
    split at h4
    · rename_i x ys m e1 e2 e4
      cases h4
      obtain ⟨a1, a2, a3⟩ := ih.as o e2
      obtain ⟨s, rfl, b1, b2⟩ := mtOf_ok e4
      have e3 : ev C (.mt m x ys) = fun σ st => bnd (ev C x σ st) fun x st => if mtRecv m x st = true then bnd (evs C ys σ st) fun ds st => mtop m x ds st else none := by funext σ st; rw [ev]
      rw [e3]
      exact sE_mt b1 b2 h1 h2 h3 a2 (ih.e o e1) a1 fun z => by
        subst z
        have e6 : ys = [] := List.eq_nil_of_length_eq_zero a3
        rw [e6, evs_nil]
    · cases h4
  · cases h
    have e3 : ev C .dnew = fun _ st => alloc (.dic []) st := by funext σ st; rw [ev]
    rw [e3]
    exact sE_dnew
  · exact (ih.comp o h).1
  · cases h
theorem all_ok : ∀ n, All n
  | 0 => by
    refine ⟨?_, ?_, ?_, ?_, ?_, ?_, ?_, ?_, ?_, ?_⟩
    · intro k c C E X e t o h; simp [cE] at h
    · intro k c C E X e t o h; simp [cT] at h
    · intro k c C E X e t o h; simp [cW] at h
    · intro k c C E X e t o h; simp [cEs] at h
    · intro k c C E X e t o h; simp [cEs] at h
    · intro k c C E X f es kws t p pos o h; simp [cCall] at h
    · intro k c C E X e ik ts tg o h; simp [cI] at h
    · intro k c C E X e t o h; simp [cC] at h
    · intro k c C E X elt gens scope t pos o h; simp [cComp] at h
    · intro k c C E X f ag elt gens scope t gp p pos o h1 h2 h3 h4 h5 h; simp [cGen] at h
  | n + 1 => by
    have ih := all_ok n
    exact ⟨stepE ih, stepT ih, stepW ih, stepAs ih, stepKw ih, stepCall ih, stepI ih, stepC ih, stepComp ih, stepGen ih⟩
end MP

set_option Elab.async false
set_option linter.all false
set_option maxRecDepth 100000
set_option maxHeartbeats 4000000
/-! raise, try -/
namespace MP
open PySem PySem.Spec PyProof.Rows L2
variable [Gb]

theorem below_eq {xs : List XRow} {X : Cx} (o : XOk xs X.prog X.K X.mg) {r q : XRow} (hr : r ∈ xs) (h1 : r.rs = true) (hq : q ∈ xs) : (xBelow xs q.nm).contains r.nm = r.up.contains q.nm := by
  cases e : r.up.contains q.nm with
  | true =>
    refine List.contains_iff_mem.mpr (List.mem_map.mpr ⟨r, List.mem_filter.mpr ⟨hr, ?_⟩, rfl⟩)
    rw [h1, e]; rfl
  | false =>
    refine Bool.eq_false_iff.mpr fun z => ?_
    obtain ⟨r', hr', en⟩ := List.mem_map.mp (List.contains_iff_mem.mp z)
    obtain ⟨m1, m2⟩ := List.mem_filter.mp hr'
    obtain ⟨m3, m4⟩ := Bool.and_eq_true_iff.mp m2
    have e1 := (o.sub r hr h1 q hq).1
    have e2 := (o.sub r' m1 m3 q hq).1
    rw [en, e1, e, m4] at e2
    cases e2
/-- what is known of a caught exception -/
structure Caught (X : Cx) (x : Exn) (cls : Value) (od : Option Addr) (oe : Obj) : Prop where
  c : cls = .ref (He.ga X.K x.cls)
  m : x.cls ∈ Gb.xk
  hz : Zc cls od oe
  hf : ∃ vs, oe.data = .fields vs
/-- the slot of the exception's name -/
def NmOk (c : CC) (nm : Option Str) (i : Option Nat) : Prop := ∀ y, nm = some y → ∃ j, i = some j ∧ idx c.N y = some j
def SHX (n : Nat) : Prop := ∀ {k : Nat} {c : CC} {C : CalT} {E : L2.St → XK} {X : Cx} {nm : Option Str} {e : Expr} {h : HX}, Okc k c C E X → c.top = true → cHX n c nm e = some h → ∀ {i : Option Nat}, NmOk c nm i → ∀ {a : Addr} {oe : Obj} {cls : Value} {od : Option Addr} {pn : List (Addr × Obj)} {x : Exn}, Caught X x cls od oe → PE (X.suite a ((a, oe) :: pn)) e (rdX X.K x od i a (hx x h))
def SHA (n : Nat) : Prop := ∀ {k : Nat} {c : CC} {C : CalT} {E : L2.St → XK} {X : Cx} {nm : Option Str} {es : List Expr} {hs : List HX}, Okc k c C E X → c.top = true → cHXs n c nm es = some hs → ∀ {i : Option Nat}, NmOk c nm i → ∀ {a : Addr} {oe : Obj} {cls : Value} {od : Option Addr} {pn : List (Addr × Obj)} {x : Exn}, Caught X x cls od oe → PA (X.suite a ((a, oe) :: pn)) es (rdXA X.K x od i a (hxs x hs)) ∧ hs.length = es.length
def SHT (n : Nat) : Prop := ∀ {k : Nat} {c : CC} {C : CalT} {E : L2.St → XK} {X : Cx} {nm : Option Str} {e : Expr} {h : HX}, Okc k c C E X → c.top = true → cHT n c nm e = some h → ∀ {i : Option Nat}, NmOk c nm i → ∀ {a : Addr} {oe : Obj} {cls : Value} {od : Option Addr} {pn : List (Addr × Obj)} {x : Exn}, Caught X x cls od oe → PT (X.suite a ((a, oe) :: pn)) e (rdXT X.K x od i a (hx x h))
theorem hxs_len {x : Exn} : ∀ {hs : List HX} {ds : List D}, hxs x hs = some ds → ds.length = hs.length
  | [], ds, h => by rw [hxs] at h; cases h; rfl
  | a :: as, ds, h => by
    rw [hxs] at h
    split at h
    · rename_i e1 e2
      cases h
      rw [List.length_cons, List.length_cons, hxs_len e2]
    · cases h
theorem stepHA {n : Nat} (ih : SHX n) : SHA (n + 1) := by
  intro k c C E X nm es hs o ht h i hn a oe cls od pn x hc
  unfold cHXs at h
  induction es generalizing hs with
  | nil =>
    cases h
    refine ⟨?_, rfl⟩
    rw [hxs]
    exact sXA_nil
  | cons e es ih2 =>
    obtain ⟨t, ts', h1, h2, rfl⟩ := mapO_cons h
    obtain ⟨h3, h4⟩ := if_some h1
    obtain ⟨i1, i2⟩ := ih2 h2
    refine ⟨?_, by rw [List.length_cons, List.length_cons, i2]⟩
    have e1 : hxs x (t :: ts') = consO (hx x t) (hxs x ts') := by
      rw [hxs]
      unfold consO
      rfl
    rw [e1]
    exact sXA_cons (ih o ht h4 hn hc) i1 (star_of h3)
theorem stepHT {n : Nat} (ih : SHX n) (ihT : SHT n) : SHT (n + 1) := by
  intro k c C E X nm e h o ht hh i hn a oe cls od pn x hc
  unfold cHT at hh
  split at hh
  · obtain ⟨y, e1, rfl⟩ := opt_map hh
    have e2 : hx x (.not y) = notO (hx x y) := by rw [hx]; unfold notO; rfl
    rw [e2]
    exact sXT_not (ihT o ht e1 hn hc)
  · split at hh
    · rename_i y z e1 e2
      cases hh
      have e3 : hx x (.and y z) = andO (hx x y) (hx x z) := by rw [hx]; unfold andO; rfl
      rw [e3]
      exact sXT_and (ihT o ht e1 hn hc) (ihT o ht e2 hn hc)
    · cases hh
  · exact sXT_tru (ih o ht hh hn hc) (truth_of rfl)
  · cases hh
theorem row_of {xs : List XRow} {X : Cx} (o : XOk xs X.prog X.K X.mg) {p : XRow → Bool} (h : xs.any p = true) : ∃ q ∈ xs, p q = true := List.any_eq_true.mp h
theorem stepHX {n : Nat} (ih : SHX n) (ihA : SHA n) (ihT : SHT n) : SHX (n + 1) := by
  intro k c C E X nm e h o ht hh i hn a oe cls od pn x hc
  have ox := o.exc ht
  obtain ⟨r, hr, er, rr⟩ := ox.all x.cls hc.m
  unfold cHX at hh
  split at hh
  · cases hh; rw [hx]; exact sX_lit pe_int fun _ _ => rfl
  · cases hh; rw [hx]; exact sX_lit pe_bl fun _ _ => rfl
  · cases hh; rw [hx]; exact sX_lit pe_non fun _ _ => rfl
  · cases hh; rw [hx]; exact sX_lit pe_str fun _ _ => rfl
  · rename_i y p1 f p2
    obtain ⟨⟨h1, h2, h3, h4⟩, h5⟩ := if_some hh
    cases h5
    obtain ⟨j, ej, hj⟩ := hn y h1
    obtain ⟨d1, d2⟩ := plainName_of h3
    obtain ⟨q, hq, eq⟩ := row_of ox h4
    have T := ox.ga r hr rr
    have N := ox.no r hr rr q hq f (of_decide_eq_true eq)
    rw [er] at T N
    rw [hx]
    exact sX_fld T N hc.hz hc.c hc.hf (o.ix hj) (o.vis h2) d1 d2 ej
  · rename_i g gp y p1 z p2 p3
    obtain ⟨⟨h1, h2, h3, h4, h5, h6, h7, h8, h9⟩, h10⟩ := if_some hh
    cases h10
    subst h1
    obtain ⟨j, ej, hj⟩ := hn y h2
    obtain ⟨d1, d2⟩ := plainName_of h4
    obtain ⟨d3, d4⟩ := plainName_of h7
    obtain ⟨q, hq, eq⟩ := row_of ox h5
    have eq : q.nm = z := of_decide_eq_true eq
    have T := ox.ga r hr rr
    obtain ⟨c1, c2, c3, c4, c5⟩ := ox.cls r hr rr
    have kq := (ox.sub r hr rr q hq).2
    have be := below_eq ox hr rr hq
    have mq := ox.gl q hq
    rw [er] at T c1 c4 c5 kq be
    rw [eq] at kq be mq
    rw [hx]
    have hZ : PE (X.suite a ((a, oe) :: pn)) (.Name z p2) (tC (.ref (He.ga X.K z))) := pe_glob (X := X.suite a ((a, oe) :: pn)) (u := .ref (He.ga X.K z)) (o.glo h6) mq rfl d3
    have hz2 : Zc (.ref (He.ga X.K x.cls)) od oe := by rw [← hc.c]; exact hc.hz
    refine imE (pe_callB (X := X.suite a ((a, oe) :: pn)) (call_isX T c1 c2 c3 c4 c5 hz2 hc.hf) (o.glo h8) (o.free _ (List.contains_iff_mem.mp h9)) PyProof.Rows.boot_isinstance (pa_cons (sX_name (X := X.suite a ((a, oe) :: pn)) (a := a) (o.ix hj) (o.vis h3) d1 d2) (pa_cons hZ pa_nil (star_of rfl)) (star_of rfl)) (by decide) (by decide) (star_of rfl) rfl) fun σ H Q ⟨h0, μ, st, d, hs, hx, e1, qq⟩ => ?_
    cases e1
    refine ⟨h0 j ej, .ref (He.ga X.K z), .ref (He.ga X.K z), r.up.contains z, rfl, fun u ru => ru, kq, fun dd ed => ?_, ?_⟩
    · subst ed
      obtain ⟨vs, e3, _⟩ := hx
      exact ⟨vs, e3⟩
    · exact qq μ H (Ext.refl _ _) hs _ (by rw [be]; rfl)
  · split at hh
    · rename_i y1 y2 y3 e1 e2 e4
      cases hh
      have e5 : hx x (.ite y1 y2 y3) = iteO (hx x y1) (hx x y2) (hx x y3) := by rw [hx]; unfold iteO; rfl
      rw [e5]
      exact sX_ite (ihT o ht e1 hn hc) (ih o ht e2 hn hc) (ih o ht e4 hn hc)
    · cases hh
  · obtain ⟨h1, h2⟩ := if_some hh
    obtain ⟨hs, e1, rfl⟩ := opt_map h2
    obtain ⟨a1, a2⟩ := ihA o ht e1 hn hc
    rw [hx]
    exact sX_tup a1 (Nat.le_trans h1 (by decide)) fun ds e => by rw [hxs_len e, a2]
  · split at hh
    · rename_i y z e1 e2
      cases hh
      have e3 : hx x (.sub y z) = subO (hx x y) (hx x z) := by rw [hx]; unfold subO; rfl
      rw [e3]
      exact sX_sub (ih o ht e1 hn hc) (ih o ht e2 hn hc)
    · cases hh
  · cases hh
theorem hx_ok : ∀ n, SHX n ∧ SHA n ∧ SHT n
  | 0 => ⟨by intro k c C E X nm e h o ht hh; simp [cHX] at hh, by intro k c C E X nm e h o ht hh; simp [cHXs] at hh, by intro k c C E X nm e h o ht hh; simp [cHT] at hh⟩
  | n + 1 => by
    obtain ⟨a, b, d⟩ := hx_ok n
    exact ⟨stepHX a b d, stepHA a, stepHT a d⟩
end MP

set_option Elab.async false
set_option linter.all false
set_option maxRecDepth 100000
set_option maxHeartbeats 4000000
namespace MP
open PySem PySem.Spec PyProof.Rows L2
variable [Gb]

/-! ### stores to places and fields -/
section
variable {X : Cx} {E : XK} {e o i : Expr} {pos tpos pos' : Pos} {m mo mi : Env → Sto → R D}
theorem get_list : PGet X (rIxL X.K) := by
  intro pins s σ H x y v u Q I rx ry h
  obtain ⟨p, xs, i, z, rfl, rfl, hq, he, q⟩ := h
  cases rx
  obtain ⟨t, rfl⟩ := ry
  obtain ⟨its, r, pl, hz⟩ := I.list hq
  obtain ⟨j, h1, h2, h3, h4, h5⟩ := atI_get he
  obtain ⟨w, ew, rw'⟩ := r.get h2
  have hl := r.length
  have hn := line63
  have fin : EP X pins σ Q w s := ⟨z, H, I, rw', q⟩
  by_cases h0 : 0 ≤ i
  · have hj : i.toNat = j := by
      rw [seqIndex_of h0 h5] at h1
      exact Option.some.inj h1
    exact wpAny_getItem_list pl.isList h0 (by omega) (by rw [hj]; simpa using ew) fin
  · have hj : (i + (its.toArray.size : Int)).toNat = j := by
      rw [seqIndex_neg (by omega) h4] at h1
      rw [List.size_toArray, ← hl]
      exact Option.some.inj h1
    exact wpAny_getItem_list_neg pl.isList (by omega) (by rw [List.size_toArray] <;> omega) (by omega) (by rw [hj]; simpa using ew) fin
theorem ixL_of {K : PySem.W.Frag} {F : XK} {μ : List Addr} {H : Hp} {st : Sto} {x y : D} {v w : V} {kk : D → Sto → List Addr → Hp → Prop} (hs : RSt K H μ st) (rx : RD K H μ x v) (ry : RD K H μ y w) (hi : isLst x st = true) (h : Aft K F μ H (ixop x y st) kk) :
    ∃ p xs i u d, v = .ref p ∧ w = .int i ∧ SqL K H p xs ∧ L2.atI xs i = some u ∧ RD K H μ d u ∧ kk d st μ H := by
  unfold isLst at hi
  split at hi
  · split at hi
    · rename_i e0
      unfold ixop at h
      split at h
      · rename_i e; cases e
      · rename_i e; cases e
      · rename_i e; cases e
      · rename_i e; cases e
        rw [e0] at h
        dsimp only at h
        split at h
        · rename_i e
          obtain ⟨a, rfl, ha⟩ := rx
          obtain ⟨a', ha', vs, h1, h2⟩ := hs.get e0
          rw [ha] at ha'; cases ha'
          obtain ⟨u, e2, r2⟩ := atI_of h2 e
          exact ⟨a, vs, _, u, _, rfl, ry, .of h1, e2, r2, h.ok (Ext.refl _ _) hs⟩
        · exact h.none.elim
      · rename_i e; cases e
        rw [e0] at h
        exact h.none.elim
      · exact h.none.elim
    · cases hi
  · cases hi
theorem setIx_of {K : PySem.W.Frag} {H : Hp} {μ : List Addr} {st st' : Sto} {x k d : D} {v w u : V} (hs : RSt K H μ st) (rx : RD K H μ x v) (rk : RD K H μ k w) (rd : RD K H μ d u) (h : setIxop x k d st = some st') :
    ∃ H', Ext μ H μ H' ∧ RSt K H' μ st' ∧ ∀ Q : Hp → Prop, Q H' → rSetL v w u H Q ∨ rSetD v w u H Q := by
  unfold setIxop at h
  split at h
  · split at h
    · rename_i ds e5
      split at h
      · rename_i j e6
        cases h
        obtain ⟨a, rfl, ha⟩ := rx
        obtain ⟨a', ha', vs, g1, g2⟩ := hs.get e5
        rw [ha] at ha'; cases ha'
        exact ⟨_, Ext.setl ha g1, hs.setl ha g1 (g2.set rd j), fun Q q => .inl ⟨a, vs, _, j, rfl, rk, g1, by rw [g2.length, ← ixN_eq]; exact e6, q⟩⟩
      · cases h
    · rename_i e5
      obtain ⟨a, rfl, ha⟩ := rx
      obtain ⟨a', ha', ro⟩ := hs.get e5
      rw [ha] at ha'; cases ha'
      obtain ⟨H', g, x4, hs4⟩ := setK_of hs ha ro rd h
      exact ⟨H', x4, hs4, fun Q q => .inr ⟨a, H', rfl, by rw [show w = _ from rk]; exact g, q⟩⟩
    · cases h
  · split at h
    · rename_i e5
      obtain ⟨a, rfl, ha⟩ := rx
      obtain ⟨a', ha', ro⟩ := hs.get e5
      rw [ha] at ha'; cases ha'
      obtain ⟨H', g, x4, hs4⟩ := setK_of hs ha ro rd h
      exact ⟨H', x4, hs4, fun Q q => .inr ⟨a, H', rfl, by rw [show w = _ from rk]; exact g, q⟩⟩
    · cases h
  · cases h
theorem sS_augIx {op : Operator} (ho : PE X o (rdE X.K (kE E) mo)) (hi : PE X i (rdE X.K (kE E) mi)) (he : PE X e (rdE X.K (kE E) m)) (hu : X.A.units + 64 < cLine)
    (ha : ∀ ov iv new, augStore i ov iv new = (do holding [new, ov, iv] (setItem ov iv new); release [new, ov, iv] []; pure .next)) :
    PS X (.AugAssign (.Subscript o i tpos) op e pos) (rdS X.K E fun σ st => bnd (mo σ st) fun x st => bnd (mi σ st) fun k st => if isLst x st = true then bnd (ixop x k st) fun y st => bnd (m σ st) fun d st => bnd (augop op y d st) fun z st => match setIxop x k z st with
    | some st' => ok (.nx σ) st'
    | none => none else none) :=
  imS (ps_augS ho hi get_list he (rIp_ok op) (PSet.or set_list (set_dict hu)) ha) fun Dn σ H ⟨μ, env, st, hs, he, h⟩ => by
    refine ⟨μ, env, st, hs, he, h.bnd.imp fun x st1 μ1 H1 x1 hs1 h1 v rv => ?_⟩
    refine ⟨μ1, env, st1, hs1, he.mono x1, h1.bnd.imp fun k st2 μ2 H2 x2 hs2 h2 w rw => ?_⟩
    obtain ⟨c, h3⟩ := h2.ite
    obtain ⟨p, xs, i, u, d, rfl, rfl, hq, hat, rd, h4⟩ := ixL_of hs2 (rv.mono x2.mono x2.pre) rw c h3.bnd
    refine ⟨p, xs, i, u, rfl, rfl, hq, hat, ?_⟩
    refine ⟨μ2, env, st2, hs2, (he.mono x1).mono x2, h4.bnd.imp fun d2 st3 μ3 H3 x3 hs3 h5 w2 rw2 => ?_⟩
    refine rIp_of (k := fun _ _ _ _ => True) (E := E) hs3 (rd.mono x3.mono x3.pre) rw2 (h5.bnd.imp fun z st4 μ4 H4 x4 hs4 h6 w3 rw3 => ?_)
    split at h6
    · rename_i st5 e5
      obtain ⟨H', g3, g4, g5⟩ := setIx_of hs4 (((rv.mono x2.mono x2.pre).mono x3.mono x3.pre).mono x4.mono x4.pre) ((rw.mono x3.mono x3.pre).mono x4.mono x4.pre) rw3 e5
      exact g5 _ (h6.ok g3 g4 σ (((((he.mono x1).mono x2).mono x3).mono x4).mono g3))
    · exact h6.none.elim
theorem setFld_of {K : PySem.W.Frag} {H : Hp} {μ : List Addr} {st st' : Sto} {x d : D} {v u : V} {f : Str} {p : Str → Bool} (na : ∀ cl, cl ∈ Gb.cls → NoAttr K (He.ga K cl) f) (hs : RSt K H μ st) (rx : RD K H μ x v) (rd : RD K H μ d u) (h : setFldop p f x d st = some st') :
    ∃ a cl dx fs, v = .ref a ∧ p cl = true ∧ H a = some (.ins (He.ga K cl) dx fs) ∧ Cls K (He.ga K cl) ∧ NoAttr K (He.ga K cl) f ∧ fs.length < 1000 ∧ Ext μ H μ (upd H a (.ins (He.ga K cl) dx (putF f u fs))) ∧ RSt K (upd H a (.ins (He.ga K cl) dx (putF f u fs))) μ st' := by
  unfold setFldop at h
  split at h
  · split at h
    · rename_i cl fs e5
      split at h
      · rename_i c
        obtain ⟨c1, c2⟩ := c
        cases h
        obtain ⟨a, rfl, ha⟩ := rx
        obtain ⟨a', ha', dx, vs, g1, g2, g3, g4, g5⟩ := hs.get e5
        rw [ha] at ha'; cases ha'
        have n1 : ∀ xs, HO.ins (He.ga K cl) dx vs ≠ .tup xs := fun _ z => by cases z
        have n2 : ∀ o x, HO.ins (He.ga K cl) dx vs ≠ .frz o x := fun _ _ z => by cases z
        have n3 : ∀ ps, HO.ins (He.ga K cl) dx vs ≠ .tbl ps := fun _ z => by cases z
        refine ⟨a, cl, dx, vs, rfl, c1, g1, g3, na cl g5, by rw [g2.length]; omega, Ext.setO ha g1 n1 n2, hs.setO ha g1 n1 n2 n3 ⟨dx, _, upd_same, (g2.put rd).mono (Mono.mut g1 n1 n2) (List.prefix_refl _), g3, ?_, g5⟩⟩
        exact putD_keys (P := fun q => NoAttr K (He.ga K cl) q) (na cl g5) g4
      · cases h
    · cases h
  · cases h
theorem sS_setFld {f : Str} (na : ∀ cl, cl ∈ Gb.cls → NoAttr X.K (He.ga X.K cl) f) (ho : PE X o (rdE X.K (kE E) mo)) (he : PE X e (rdE X.K (kE E) m)) (hs : swapsWith e (some (.Attribute o f pos')) pos.line X.env = pure false) :
    PS X (.Assign [.Attribute o f pos'] e pos) (rdS X.K E fun σ st => bnd (m σ st) fun d st => bnd (mo σ st) fun x st => match setFldop (fun _ => true) f x d st with
    | some st' => ok (.nx σ) st'
    | none => none) :=
  imS (ps_fld ho he hs) fun Dn σ H ⟨μ, env, st, hs, he, h⟩ => by
    refine ⟨μ, env, st, hs, he, h.bnd.imp fun d st1 μ1 H1 x1 hs1 h1 v rv => ?_⟩
    refine ⟨μ1, env, st1, hs1, he.mono x1, h1.bnd.imp fun k st2 μ2 H2 x2 hs2 h2 w rw => ?_⟩
    split at h2
    · rename_i st3 e3
      obtain ⟨a, cl, dx, fs, rfl, _, g1, g2, g3, g4, g5, g6⟩ := setFld_of na hs2 rw (rv.mono x2.mono x2.pre) e3
      exact ⟨a, _, dx, fs, rfl, g1, g2, g3, g4, h2.ok g5 g6 σ (((he.mono x1).mono x2).mono g5)⟩
    · exact h2.none.elim
/-- op= of instances' fields -/
theorem in_of {op : Operator} : InOp X op (rIp op) := fun pins s σ H x y u v Q I r1 r2 q => rIp_ok op pins s σ H x y u v Q I r1 r2 q
theorem sS_augFld {op : Operator} {f : Str} (na : ∀ cl, cl ∈ Gb.cls → NoAttr X.K (He.ga X.K cl) f) (ho : PE X o (rdE X.K (kE E) mo)) (he : PE X e (rdE X.K (kE E) m)) :
    PS X (.AugAssign (.Attribute o f tpos) op e pos) (rdS X.K E fun σ st => bnd (mo σ st) fun x st => insOp x st fun _ c fs => match fs.lookup f with
    | some y => bnd (m σ st) fun d st => bnd (augop op y d st) fun z st => (match setFldop (fun c' => decide (c' = c)) f x z st with
      | some st' => ok (.nx σ) st'
      | none => none)
    | none => none) :=
  imS (ps_fldaug ho he in_of) fun Dn σ H ⟨μ, env, st, hs, he, h⟩ => by
    refine ⟨μ, env, st, hs, he, h.bnd.imp fun d st1 μ1 H1 x1 hs1 h1 v rv => ?_⟩
    obtain ⟨n, cl, fs, a, dx, vs, rfl, e1, rfl, ha1, hH, rf, hcl, hna, hgb, h2⟩ := ins_of hs1 rv h1
    split at h2
    · rename_i y e2
      obtain ⟨v, e3, r3⟩ := rf.get e2
      refine ⟨a, _, dx, vs, v, rfl, hH, hcl, na cl hgb, e3, ?_⟩
      refine ⟨μ1, env, st1, hs1, he.mono x1, h2.bnd.imp fun d2 st2 μ2 H2 x2 hs2 h3 w rw => ?_⟩
      refine rIp_of (k := fun _ _ _ _ => True) (E := E) hs2 (r3.mono x2.mono x2.pre) rw (h3.bnd.imp fun z st4 μ4 H4 x4 hs4 h6 w3 rw3 => ?_)
      split at h6
      · rename_i st5 e5
        obtain ⟨a2, cl2, dx2, fs2, e6, c1, g1, g2, g3, g4, g5, g6⟩ := setFld_of na hs4 ((RD.mono x2.mono x2.pre _ rv).mono x4.mono x4.pre) rw3 e5
        cases e6
        have c1 : cl2 = cl := of_decide_eq_true c1
        subst c1
        exact ⟨dx2, fs2, g1, g4, h6.ok g5 g6 σ ((((he.mono x1).mono x2).mono x4).mono g5)⟩
      · exact h6.none.elim
    · exact h2.none.elim
end
end MP

set_option Elab.async false
set_option linter.all false
set_option maxRecDepth 100000
set_option maxHeartbeats 4000000
namespace MP
open PySem PySem.Spec PyProof.Rows L2
variable [Gb]

/-- the field of an own exception that may be raised -/
def rowF (xs : List XRow) (x : Str) : Option Str := (xs.find? fun r => decide (r.nm = x) && r.rs).bind (·.f)
theorem rowF_ok {xs : List XRow} {x f : Str} (h : rowF xs x = some f) : ∃ r ∈ xs, r.nm = x ∧ r.rs = true ∧ r.f = some f := by
  unfold rowF at h
  obtain ⟨r, h1, h2⟩ := Option.bind_eq_some_iff.mp h
  have h3 := List.find?_some h1
  obtain ⟨h4, h5⟩ := Bool.and_eq_true_iff.mp h3
  exact ⟨r, List.mem_of_find?_eq_some h1, of_decide_eq_true h4, h5, h2⟩
section
variable {k : Nat} {c : CC} {C : CalT} {E : XK} {X : Cx} {pos : Pos}
theorem sS_rse {x f : Str} {e : Expr} {t : T} {p p2 : Pos} (o : Okc k c C (kE E) X) (ht : c.top = true) (hr : rowF c.xs x = some f) (hg : gloB c.sc x = true) (hp : plainName x = true) (ha : PA X [e] (rdA X.K (kE E) (evs C [t]))) (hs : notStar e = true) :
    PS X (.Raise (some (.Call (.Name x p) [e] [] p2)) none pos) (rdS X.K E (ex C (.rse x [f] [t]))) := by
  obtain ⟨r, hrm, en, hrs, ef⟩ := rowF_ok hr
  obtain ⟨m, fI, T⟩ := (o.exc ht).sup r hrm f ef hrs
  rw [en] at T m
  refine imS (ps_raise o.calm o.tk (pmk_sup T (o.room.mono (Nat.le_succ k)) ha (o.glo hg) (plainName_of hp).1 (star_of hs))) fun Dn σ H ⟨μ, env, st, hst, he, h⟩ => ?_
  have e3 : ex C (.rse x [f] [t]) env st = bnd (evs C [t] env st) fun ds st => some (.error ⟨x, [f].zip ds⟩, st) := by rw [ex]
  rw [e3] at h
  refine ⟨μ, env, st, hst, he, h.bnd.eq.imp fun ds st1 μ1 H1 x1 hs1 ⟨e1, h1⟩ vs rs => ?_⟩
  have hl := evs_len e1
  match ds, rs, hl, h1 with
  | [d0], rs, _, h1 =>
    obtain ⟨v, w, rfl, rv, rw'⟩ := rs
    rw [show w = [] from rw']
    refine ⟨v, rfl, fun d hd => ?_⟩
    obtain ⟨y, s', e4, z⟩ := h1
    cases e4
    exact z μ1 _ _ _ (Ext.newO hd) (hs1.new hd) ⟨⟨rfl, m⟩, _, upd_same, v, [], rfl, rv.mono (Mono.new hd) (List.prefix_refl _) d0, rfl⟩

/-! ### try -/
/-- the clauses: their classes' names, slots, values -/
def cHd (n : Nat) (c : CC) : ExceptHandler → Option (Str × Option Nat × HX)
  | .ExceptHandler (some (.Name z _)) none [.Return (some e) _] _ => if (c.xs.any fun r => decide (r.nm = z)) = true ∧ gloB c.sc z = true ∧ plainName z = true then (cHX n c none e).map fun h => (z, none, h) else none
  | .ExceptHandler (some (.Name z _)) (some y) [.Return (some e) _] _ => if (c.xs.any fun r => decide (r.nm = z)) = true ∧ gloB c.sc z = true ∧ plainName z = true ∧ c.sc.names.lookup y = some .local then (match idx c.N y with
    | some j => (cHX n c (some y) e).map fun h => (z, some j, h)
    | none => none) else none
  | _ => none
def hdT (xs : List XRow) (l : List (Str × Option Nat × HX)) : List (List Str × HX) := l.map fun p => (xBelow xs p.1, p.2.2)
def hdM (l : List (Str × Option Nat × HX)) : Nat := l.foldl (fun m p => max m (match p.2.1 with | some j => j + 1 | none => 0)) 0
theorem foldl_max {α : Type} {f : α → Nat} : ∀ (l : List α) (m : Nat), m ≤ l.foldl (fun m p => max m (f p)) m ∧ ∀ p ∈ l, f p ≤ l.foldl (fun m p => max m (f p)) m
  | [], m => ⟨Nat.le_refl _, fun _ h => by cases h⟩
  | q :: l, m => by
    obtain ⟨a, b⟩ := foldl_max (f := f) l (max m (f q))
    refine ⟨Nat.le_trans (Nat.le_max_left _ _) a, fun p hp => ?_⟩
    rcases List.mem_cons.mp hp with rfl | hp
    · exact Nat.le_trans (Nat.le_max_right _ _) a
    · exact b p hp
theorem hdM_le {l : List (Str × Option Nat × HX)} {p : Str × Option Nat × HX} (h : p ∈ l) {j : Nat} (e : p.2.1 = some j) : j < hdM l := by
  have q := (foldl_max (f := fun p : Str × Option Nat × HX => match p.2.1 with | some j => j + 1 | none => 0) l 0).2 p h
  rw [e] at q
  exact q
/-- a clause's suite -/
def tsX (K : PySem.W.Frag) (i : Option Nat) (h : HX) : Addr → Value → Option Addr → TS := fun a cls od D σ H => ∃ x : Exn, cls = .ref (He.ga K x.cls) ∧ x.cls ∈ Gb.xk ∧ rdX K x od i a (hx x h) σ H fun v H' => D.rt v H'
def clX (K : PySem.W.Frag) (p : Str × Option Nat × HX) : Clause := (.ref (He.ga K p.1), p.2.1, tsX K p.2.1 p.2.2)
theorem suite_ok {n : Nat} {nm : Option Str} {i : Option Nat} {e : Expr} {h : HX} {rp : Pos} (o : Okc k c C (kE E) X) (ht : c.top = true) (hc : cHX n c nm e = some h) (hn : NmOk c nm i) (a : Addr) (oe : Obj) (cls : Value) (d : Option Addr) (pn : List (Addr × Obj)) (hz : Zc cls d oe) (hf : ∃ vs, oe.data = .fields vs) :
    PSs (X.suite a ((a, oe) :: pn)) [.Return (some e) rp] (tsX X.K i h a cls d) := by
  refine ⟨fun pins s σ H D I ⟨x, e1, m, r⟩ => ?_⟩
  exact (pss_cons (ps_ret ((hx_ok n).1 o ht hc hn (x := x) ⟨e1, m, hz, hf⟩)) pss_nil).run pins s σ H D I r
theorem hds_ok {n : Nat} (o : Okc k c C (kE E) X) (ht : c.top = true) : ∀ {hds : List ExceptHandler} {l : List (Str × Option Nat × HX)}, mapO (cHd n c) hds = some l → HdsN X hds (l.map (clX X.K)) ∧ ∀ p ∈ l, ∃ q ∈ c.xs, q.nm = p.1
  | [], l, h => by cases h; exact ⟨.nil, fun _ h => by cases h⟩
  | hd :: hds, l, h => by
    obtain ⟨p, l', h1, h2, rfl⟩ := mapO_cons h
    obtain ⟨i1, i2⟩ := hds_ok o ht h2
    have ox := o.exc ht
    have nmOk : ∀ {z : Str}, (c.xs.any fun r => decide (r.nm = z)) = true → gloB c.sc z = true → plainName z = true → Names X z (.ref (He.ga X.K z)) ∧ ∃ q ∈ c.xs, q.nm = z := fun {z} a1 a2 a3 => by
      obtain ⟨q, hq, eq⟩ := row_of ox a1
      have eq : q.nm = z := of_decide_eq_true eq
      have mq := ox.gl q hq
      rw [eq] at mq
      exact ⟨⟨o.glo a2, (plainName_of a3).1, .inl mq⟩, q, hq, eq⟩
    unfold cHd at h1
    split at h1
    · rename_i z np e rp pos'
      obtain ⟨⟨a1, a2, a3⟩, hB⟩ := if_some h1
      obtain ⟨hh, e1, rfl⟩ := opt_map hB
      obtain ⟨b1, b2⟩ := nmOk a1 a2 a3
      refine ⟨?_, fun p hp => ?_⟩
      · exact .plain b1 (fun a oe cls d pn hz hf => suite_ok o ht e1 (fun y e => by cases e) a oe cls d pn hz hf) i1
      · rcases List.mem_cons.mp hp with rfl | hp
        · exact b2
        · exact i2 p hp
    · rename_i z np y e rp pos'
      obtain ⟨⟨a1, a2, a3, a4⟩, hB⟩ := if_some h1
      split at hB
      · rename_i j hj
        obtain ⟨hh, e1, rfl⟩ := opt_map hB
        obtain ⟨b1, b2⟩ := nmOk a1 a2 a3
        refine ⟨?_, fun p hp => ?_⟩
        · exact .named (o.ix hj) (by show X.env.scope.names.lookup y = _; rw [o.sc]; exact a4) b1 (fun a oe cls d pn hz hf => suite_ok o ht e1 (fun y' e => by cases e; exact ⟨j, rfl, hj⟩) a oe cls d pn hz hf) i1
        · rcases List.mem_cons.mp hp with rfl | hp
          · exact b2
          · exact i2 p hp
      · cases hB
    · cases h1
/-- the clauses' wish of an exception -/
theorem wHs_of {K : PySem.W.Frag} {D : Ends} {Wout : WX} {x : Exn} {cv : Value} {od : Option Addr} {σ : L2.St} {μ : List Addr} {H : Hp} {st : Sto} (ox : XOk c.xs X.prog X.K X.mg) (hK : X.K = K) (hc : cv = .ref (He.ga K x.cls)) (hm : x.cls ∈ Gb.xk) (hs : RSt K H μ st) (rx : RXd K H μ x od) :
    ∀ (l : List (Str × Option Nat × HX)), (∀ p ∈ l, ∃ q ∈ c.xs, q.nm = p.1) → (∀ p ∈ l, ∀ j, p.2.1 = some j → j < σ.length) →
      (match hxFind x (hdT c.xs l) with
        | some h => ∃ d, hx x h = some d ∧ ∀ μ' H', Ext μ H μ' H' → RSt K H' μ' st → ∀ v, RD K H' μ' d v → D.rt v H'
        | none => Wout cv od σ H) → wHs K Wout D (l.map (clX K)) cv od σ H
  | [], _, _, h => h
  | (z, i, h) :: l, h1, h2, hh => by
    obtain ⟨r, hr, er, rr⟩ := ox.all x.cls hm
    obtain ⟨q, hq, eq⟩ := h1 _ List.mem_cons_self
    have eq : q.nm = z := eq
    have sb := (ox.sub r hr rr q hq).1
    have be := below_eq ox hr rr hq
    rw [er, eq, hK] at sb
    rw [er, eq] at be
    have rest : r.up.contains z = false → wHs K Wout D (l.map (clX K)) cv od σ H := fun bf => by
      refine wHs_of ox hK hc hm hs rx l (fun p hp => h1 p (List.mem_cons_of_mem _ hp)) (fun p hp => h2 p (List.mem_cons_of_mem _ hp)) ?_
      have e1 : hxFind x (hdT c.xs ((z, i, h) :: l)) = hxFind x (hdT c.xs l) := by
        show (if (xBelow c.xs z).contains x.cls = true then some h else hxFind x (hdT c.xs l)) = _
        rw [be, bf]
        exact if_neg Bool.false_ne_true
      rw [e1] at hh
      exact hh
    have yes : r.up.contains z = true → ∃ d, hx x h = some d ∧ ∀ μ' H', Ext μ H μ' H' → RSt K H' μ' st → ∀ v, RD K H' μ' d v → D.rt v H' := fun bt => by
      have e1 : hxFind x (hdT c.xs ((z, i, h) :: l)) = some h := by
        show (if (xBelow c.xs z).contains x.cls = true then some h else hxFind x (hdT c.xs l)) = _
        rw [be, bt]
        exact if_pos rfl
      rw [e1] at hh
      exact hh
    rw [List.map_cons]
    cases i with
    | none =>
      refine ⟨_, by rw [hc]; exact sb, fun bt a ha => ?_, rest⟩
      obtain ⟨d, e2, q2⟩ := yes bt
      exact ⟨x, hc, hm, ⟨fun j ej => (by cases ej), μ, st, d, hs, rx, e2, q2⟩⟩
    | some j =>
      refine ⟨_, by rw [hc]; exact sb, fun bt a ha => ?_, rest⟩
      obtain ⟨d, e2, q2⟩ := yes bt
      have hj : j < σ.length := h2 _ List.mem_cons_self j rfl
      exact ⟨x, hc, hm, ⟨fun j' ej => (by cases ej; exact List.getElem?_set_self hj), μ, st, d, hs, rx, e2, q2⟩⟩
theorem Okc.tr (o : Okc k c C (kE E) X) {W : WX} {pn : List (Addr × Obj)} {xe : Value → Shared → Prop} (tk : Takes (X.tr pn xe) W) (po : PassesOwn (model X.prog X.w) X.A X.env xe) : Okc k c C (WE W) (X.tr pn xe) where
  calm := o.calm
  N := o.N
  nd := o.nd
  sc := o.sc
  kind := o.kind
  top := o.top
  units := o.units
  po := po
  room := o.room
  room2 := o.room2
  tk := tk
  cal := o.cal
  meth := o.meth
  mak := o.mak
  free := o.free
  lib := o.lib
  con := o.con
  own := o.own
  fld := o.fld
  stk := o.stk
  exc := o.exc
  tab := o.tab
theorem try_of {ret : Bool} {t : T} {l : List (Str × Option Nat × HX)} {Dn : Ends} {σ : L2.St} {H : Hp} (o : Okc k c C (kE E) X) (ht : c.top = true) (hq : ∀ p ∈ l, ∃ q ∈ c.xs, q.nm = p.1) (h : rdS X.K E (ex C (.try_ ret (hdM l) t (hdT c.xs l))) Dn σ H) :
    rdE X.K (WE (wHs X.K (fun cls d _ H => E cls d H) Dn (l.map (clX X.K)))) (ev C t) σ H fun v H1 => if ret = true then Dn.rt v H1 else Dn.nx σ H1 := by
  obtain ⟨μ, env, st, hs, he, h⟩ := h
  have e3 : ex C (.try_ ret (hdM l) t (hdT c.xs l)) env st = if hdM l ≤ env.length then caught ret (hdT c.xs l) env (ev C t env st) else none := by rw [ex]
  rw [e3] at h
  obtain ⟨hl, h⟩ := h.ite
  refine ⟨μ, env, st, hs, he, ?_⟩
  cases ec : ev C t env st with
  | none => rw [ec] at h; exact h.none.elim
  | some p =>
    obtain ⟨y, s⟩ := p
    rw [ec] at h
    cases y with
    | ok d =>
      refine ⟨_, _, rfl, fun μ' H' x hs' v rv => ?_⟩
      unfold caught at h
      cases ret with
      | true =>
        rw [if_pos rfl]
        exact h.ok x hs' v rv
      | false =>
        rw [if_neg Bool.false_ne_true]
        exact h.ok x hs' σ (he.mono x)
    | error e =>
      refine ⟨_, _, rfl, fun μ' H' cv od x hs' ⟨⟨rx1, rx2⟩, rx3⟩ => ?_⟩
      refine wHs_of (X := X) (c := c) (o.exc ht) rfl rx1 rx2 hs' rx3 l hq (fun p hp j ej => ?_) ?_
      · have := hdM_le hp ej
        rw [← he.len]
        omega
      · unfold caught at h
        dsimp only at h
        cases ef : hxFind e (hdT c.xs l) with
        | none =>
          rw [ef] at h
          obtain ⟨y, s', e4, z⟩ := h
          cases e4
          exact z μ' H' cv od x hs' ⟨⟨rx1, rx2⟩, rx3⟩
        | some hh =>
          rw [ef] at h
          dsimp only at h ⊢
          cases eh : hx e hh with
          | none => rw [eh] at h; exact h.none.elim
          | some d =>
            rw [eh] at h
            exact ⟨d, rfl, fun μ2 H2 x2 hs2 v rv => h.ok (x.trans x2) hs2 v rv⟩
/-- the body of a try -/
def cTry (n : Nat) (c : CC) : Stmt → Option (Bool × T)
  | .Expr e _ => if notComp e = true then (cE n c e).map (false, ·) else none
  | .Return (some e) _ => (cE n c e).map (true, ·)
  | _ => none
theorem sS_try {n : Nat} {b : Stmt} {h₀ : ExceptHandler} {hds : List ExceptHandler} {ret : Bool} {t : T} {l : List (Str × Option Nat × HX)} (al : SE n) (o : Okc k c C (kE E) X) (ht : c.top = true) (hb : cTry n c b = some (ret, t)) (hh : mapO (cHd n c) (h₀ :: hds) = some l) :
    PS X (.Try [b] (h₀ :: hds) [] [] pos) (rdS X.K E (ex C (.try_ ret (hdM l) t (hdT c.xs l)))) := by
  obtain ⟨s1, s2⟩ := o.stk ht
  obtain ⟨g1, g2⟩ := hds_ok o ht hh
  refine imS (ps_tryN (Wout := fun cls d _ H => E cls d H) (tb := fun W D σ H => rdE X.K (WE W) (ev C t) σ H fun v H1 => if ret = true then D.rt v H1 else D.nx σ H1) s1 s2 o.nd' o.tk (fun W pn xe tk po => ?_) g1) fun Dn σ H h => try_of o ht g2 h
  have o2 := o.tr tk po
  unfold cTry at hb
  split at hb
  · rename_i e p
    obtain ⟨h1, h2⟩ := if_some hb
    obtain ⟨t', e1, e2⟩ := opt_map h2
    cases e2
    exact imSs (pss_cons (ps_expr (al o2 e1) (swaps_of h1)) pss_nil) fun D σ H h => h
  · rename_i e p
    obtain ⟨t', e1, e2⟩ := opt_map hb
    cases e2
    exact imSs (pss_cons (ps_ret (al o2 e1)) pss_nil) fun D σ H h => h
  · cases hb
end
end MP

set_option Elab.async false
set_option linter.all false
set_option maxRecDepth 100000
set_option maxHeartbeats 4000000
namespace MP
open PySem PySem.Spec PyProof.Rows L2
variable [Gb]
theorem thnT {α : Type} {M : Model} {A : Around} {t : Sem α} {Q Q' : α → Shared → Prop} {E : Value → Shared → Prop} {s : Shared} {n : Nat} (hn : n ≤ s.toks) (h : wpAny M A t Q E s) (f : ∀ a s', n ≤ s'.toks → Q a s' → Q' a s') : wpAny M A t Q' E s :=
  wpAny_mono (wpAny_toks_of hn h) (fun a s' z => f a s' z.1 z.2) fun _ _ z => z.2
section
variable {X : Cx} {a A B o : Expr} {rest : List Stmt} {ta tA tB to : TE} {u : TS} {i j n1 n2 n3 : Nat} {x y m p q : Str} {op : CmpOp} {r : R2} {q1 q2 q3 q4 q5 q6 q7 q8 q9 c0 c1 : Pos}
/-- a statement that looks at a written text, and a replacing behind it -/
theorem pss_rpl (hN : X.N.Nodup) (hi : X.N[i]? = some x) (hx : Loc X.env.scope x) (hf : X.fn x = true ∨ X.env.scope.names.lookup x = some .local) (hj : X.N[j]? = some y) (hy : Loc X.env.scope y) (hfy : X.fn y = true ∨ X.env.scope.names.lookup y = some .local)
    (hop : OpR X (compareOp op) r) (hm : behindInMarks op (.Constant (.str m) n1 q1) = false) (ha : PE X a ta) (hA : PE X A tA) (hB : PE X B tB) (ho : PE X o to) (hr : PSs X rest u) (hpq : (p == q) = false) (hbase : attributeBase o "replace" X.env (eval o X.env) = eval o X.env) (hline : (q5.endLine == q6.line) = true) :
    PSs X (.Assign [.Name x q2] (.IfExp (.Compare a [op] [.Constant (.str m) n1 q1] q3) A B q4) q7 :: .Assign [.Name y q8] (.Call (.Attribute o "replace" q5) [.Constant (.str p) n2 c0, .Constant (.str q) n3 c1] [] q6) q9 :: rest)
      (tSeq (tAsg (tIf (tTest (tOp r ta (tC (.str m)))) tA tB) (gName i)) (tSeq (tAsg (CwR.tReplC to p q) (gName j)) u)) := by
  refine ⟨fun pins s σ H D I h => ?_⟩
  refine wpAny_execs_cons (wpAny_Assign_Name (wpAny_IfExp (wpAny_isTrue_Compare1 (thn (ha.run pins s σ H _ I h) fun v s1 ⟨x1, H1, I1, r1, h1⟩ => Calls.Constant_str ?_) hm)) (swaps_of rfl))
  have I1' := I1.tok (s1.toks + 1)
  have t1 : 1 ≤ ({ s1 with toks := s1.toks + 1 } : Shared).toks := Nat.le_add_left _ _
  refine thnT t1 (hop pins _ σ H1 x1 (.str m) v (.str m s1.toks) _ I1' r1 ⟨_, rfl⟩ h1) fun c s3 t3 ⟨y3, H3, I3, r3, k, e3, h3⟩ => ?_
  subst e3
  cases r3
  refine wpAny_truthy_bool ?_
  have key : ∀ {e : Expr} {te : TE}, PE X e te → te σ H3 (fun x H1 => (gName i) x σ H1 (tSeq (tAsg (CwR.tReplC to p q) (gName j)) u D)) → wpAny (model X.prog X.w) X.A (eval e X.env) (fun v s₁ => wpAny (model X.prog X.w) X.A (storeName X.env x v) (fun _ s₂ => wpAny (model X.prog X.w) X.A (execs (.Assign [.Name y q8] (.Call (.Attribute o "replace" q5) [.Constant (.str p) n2 c0, .Constant (.str q) n3 c1] [] q6) q9 :: rest) X.env) (SP X pins D) X.xe s₂) X.xe s₁) X.xe s3 := fun {e te} he hq => by
    refine thnT t3 (he.run pins s3 σ H3 _ I3 hq) fun v s4 t4 ⟨z4, H4, I4, r4, h4⟩ => ?_
    refine thnT t4 (store_ok (Q := fun _ s5 => Inv X pins (σ.set i (some z4)) H4 s5) I4 hN hi hx r4 (fun s5 I5 => I5) hf) fun _ s5 t5 I5 => ?_
    refine wpAny_execs_cons (wpAny_Assign_Name ?_ (swaps_of rfl))
    have pe := CwR.pet_replC (X := X) (o := o) (y := p) (z := q) (j := n2) (k := n3) (c0 := c0) (c1 := c1) (apos := q5) (pos := q6) ho hpq rfl hbase hline
    have h4' : CwR.tReplC to p q (σ.set i (some z4)) H4 (fun v H' => u D ((σ.set i (some z4)).set j (some v)) H') := h4
    refine thn (pe pins s5 (σ.set i (some z4)) H4 _ t5 I5 h4') fun v6 s6 ⟨z6, H6, I6, r6, h6⟩ => ?_
    exact store_ok I6 hN hj hy r6 (fun s7 I7 => hr.run pins s7 _ H6 D I7 h6) hfy
  cases k with
  | true =>
    rw [if_pos rfl] at h3
    exact key hA h3
  | false =>
    rw [if_neg Bool.false_ne_true] at h3
    exact key hB h3
end
theorem rpl_of {K : PySem.W.Frag} {E : XK} {μ : List Addr} {H : Hp} {st : Sto} {Q : VK} {x : D} {v : V} {y z : Str} (hs : RSt K H μ st) (rx : RD K H μ x v) (h : Aft K E μ H (rplop y z x st) (KD K Q)) : ∃ a, v = .str a ∧ a.length + (a.length + 1) * z.length ≤ 16777216 ∧ Q (.str (Txt.replace a y z)) H := by
  unfold rplop at h
  split at h
  · obtain ⟨c, h⟩ := h.ite
    exact ⟨_, rx, c.1, h.val hs rfl⟩
  · exact h.none.elim
section
variable {X : Cx} {E : XK} {a A B o : Expr} {rest : List Stmt} {ma mA mB mo : Env → Sto → R D} {mr : Env → Sto → R Fl} {i j n1 n2 n3 : Nat} {x y m p q : Str} {op : CmpOp} {r : R2} {q1 q2 q3 q4 q5 q6 q7 q8 q9 c0 c1 : Pos}
/-- what follows the first statement -/
def rplK (mo : Env → Sto → R D) (mr : Env → Sto → R Fl) (j : Nat) (p q : Str) (f : Fl) (st : Sto) : R Fl := match f with
  | .nx σ1 => bnd (bnd (bnd (mo σ1 st) fun x st => rplop p q x st) fun d st => ok (Fl.nx (σ1.set j (some d))) st) fun (f : Fl) st => match f with
    | .nx σ2 => mr σ2 st
    | f => ok f st
  | f => ok f st
theorem sB_rpl (hu : X.A.units + 64 < cLine) (hN : X.N.Nodup) (hi : X.N[i]? = some x) (hx : Loc X.env.scope x) (hf : X.fn x = true ∨ X.env.scope.names.lookup x = some .local) (hj : X.N[j]? = some y) (hy : Loc X.env.scope y) (hfy : X.fn y = true ∨ X.env.scope.names.lookup y = some .local)
    (hm : behindInMarks op (.Constant (.str m) n1 q1) = false) (ha : PE X a (rdE X.K (kE E) ma)) (hA : PE X A (rdE X.K (kE E) mA)) (hB : PE X B (rdE X.K (kE E) mB)) (ho : PE X o (rdE X.K (kE E) mo)) (hr : PSs X rest (rdS X.K E mr)) (hpq : (p == q) = false) (hbase : attributeBase o "replace" X.env (eval o X.env) = eval o X.env) (hline : (q5.endLine == q6.line) = true) :
    PSs X (.Assign [.Name x q2] (.IfExp (.Compare a [op] [.Constant (.str m) n1 q1] q3) A B q4) q7 :: .Assign [.Name y q8] (.Call (.Attribute o "replace" q5) [.Constant (.str p) n2 c0, .Constant (.str q) n3 c1] [] q6) q9 :: rest)
      (rdS X.K E fun σ st => bnd (bnd (iteM (fun σ st => bnd (ma σ st) fun x st => cmpop op x (.str m) st) mA mB σ st) fun d st => ok (.nx (σ.set i (some d))) st) (rplK mo mr j p q)) :=
  imSs (pss_rpl hN hi hx hf hj hy hfy (rCmp_ok hu op) hm ha hA hB ho hr hpq hbase hline) fun D σ H ⟨μ, env, st, hs, he, h⟩ => by
    have h := h.bnd.bnd
    unfold iteM at h
    have h := h.bnd.bnd
    refine ⟨μ, env, st, hs, he, h.imp fun d st1 μ1 H1 x1 hs1 h1 v rv => ?_⟩
    refine rCmp_of hs1 rv (v := v) (w := .str m) (y := .str m) rfl (h1.imp fun d2 st2 μ2 H2 x2 hs2 h2 v2 rv2 => ?_)
    have he2 := (he.mono x1).mono x2
    have tail : ∀ {m : Env → Sto → R MP.D}, Aft X.K E μ2 H2 (m env st2) (fun a st μ' H' => Aft X.K E μ' H' (some (.ok (Fl.nx (env.set i (some a))), st)) fun f st μ' H' => Aft X.K E μ' H' (rplK mo mr j p q f st) (KF X.K D)) → rdE X.K (kE E) m σ H2 fun x H1 => (gName i) x σ H1 (tSeq (tAsg (CwR.tReplC (rdE X.K (kE E) mo) p q) (gName j)) (rdS X.K E mr) D) := fun {m} hh => by
      refine ⟨μ2, env, st2, hs2, he2, hh.imp fun d3 st3 μ3 H3 x3 hs3 h3 v3 rv3 => ?_⟩
      have h3 := h3.ok (Ext.refl _ _) hs3
      unfold rplK at h3
      have h3 := h3.bnd.bnd.bnd
      refine ⟨μ3, _, st3, hs3, (he2.mono x3).set i rv3, h3.imp fun d4 st4 μ4 H4 x4 hs4 h4 v4 rv4 => ?_⟩
      exact rpl_of (E := E) (Q := fun v5 H5 => rdS X.K E mr D ((σ.set i (some v3)).set j (some v5)) H5) hs4 rv4 (h4.imp fun d5 st5 μ5 H5 x5 hs5 h5 v5 rv5 => ⟨μ5, _, st5, hs5, ((((he2.mono x3).set i rv3).mono x4).mono x5).set j rv5, h5.ok (Ext.refl _ _) hs5⟩)
    split at h2
    · rw [show v2 = _ from rv2]
      exact ⟨true, rfl, iteT (tail h2)⟩
    · rw [show v2 = _ from rv2]
      exact ⟨false, rfl, iteF (tail h2)⟩
    · exact h2.none.elim
end
end MP

set_option Elab.async false
set_option linter.all false
set_option maxRecDepth 100000
set_option maxHeartbeats 4000000
namespace MP
open PySem PySem.Spec PyProof.Rows L2
variable [Gb]

/-! ### statements -/
/-- what a, b, .. = x, y, .. is: none (not served), plain, or stores from the right to these names -/
def swNames (sc : Scope) (ts vs : List Expr) : Option (Option (List Str)) :=
  if (!(ts.length == 2 || ts.length == 3) || vs.length != ts.length) = true then some none else
  if (vs.any fun | .Starred _ _ => true | _ => false) = true then some none else
  let line := (ts.head?.map (·.pos.line)).getD 0
  let names := ts.filterMap fun
    | .Name id pos => if (sc.names.lookup id == some .local && pos.line == line) = true then some id else none
    | _ => none
  if (names.length != ts.length || names.eraseDups.length != names.length) = true then some none else
  if vs.all (foldedForSure 8) = true then some none else
  if vs.all (constantsAlone 8) = true then none else some (some names)
theorem swNames_ok {sc : Scope} {ts vs : List Expr} {r : Option (List Str)} {kt k2 : Nat} {pt p2 : Pos} {env : PySem.Env} (hs : env.scope = sc) (hk : sc.kind = .function) (h : swNames sc ts vs = some r) : swappedStores [.Tuple ts kt pt] (.Tuple vs k2 p2) env = pure r := by
  have hb : env.blockKind = .function := by unfold Env.blockKind; rw [hs, hk]; rfl
  have hb2 : (env.blockKind != ScopeKind.function) = false := by rw [hb]; rfl
  have hko : ∀ x, env.kindOf x = sc.names.lookup x := fun x => by rw [← hs]; rfl
  unfold swNames at h
  unfold swappedStores
  simp only [hb2, Bool.or_false, hko]
  split at h
  · rename_i c1
    cases h
    exact if_pos c1
  · rename_i c1
    refine (if_neg c1).trans ?_
    split at h
    · rename_i c2
      cases h
      exact if_pos c2
    · rename_i c2
      refine (if_neg c2).trans ?_
      dsimp only at h
      split at h
      · rename_i c3
        cases h
        exact if_pos c3
      · rename_i c3
        refine (if_neg c3).trans ?_
        split at h
        · rename_i c4
          cases h
          exact if_pos c4
        · rename_i c4
          refine (if_neg c4).trans ?_
          split at h
          · cases h
          · rename_i c5
            cases h
            exact (if_neg c5).trans rfl
theorem sole_of {e t : Expr} {l : Nat} {env : PySem.Env} (h : notComp e = true) : swapsWithSole [t] e l env = pure false := by
  cases e <;> first | rfl | cases h
def notTup : Expr → Bool
  | .Tuple _ _ _ => false
  | _ => true
theorem swNone_of {tg e : Expr} {env : PySem.Env} (h : notTup e = true) : swappedStores [tg] e env = pure none := by
  cases e <;> first | (cases tg <;> rfl) | cases h
theorem swNone_tg {tg e : Expr} {env : PySem.Env} (h : (match tg with | .Tuple _ _ _ => false | .List _ _ => false | _ => true) = true) : swappedStores [tg] e env = pure none := by
  cases tg <;> first | (cases e <;> rfl) | cases h
theorem sub_of {o i : Expr} {p : Pos} {env : PySem.Env} (h : plainIxB i = true) : ∀ v, assign (.Subscript o i p) env v = (do
      let ov ← holding [v] (eval o env)
      let iv ← holding [v, ov] (eval i env)
      standAt p
      holding [v, ov, iv] (setItem ov iv v)
      release [v, ov, iv] []) := by
  intro v
  cases i <;> first | rfl | cases h
theorem aug_of {i : Expr} (h : plainIxB i = true) : ∀ ov iv new, augStore i ov iv new = (do holding [new, ov, iv] (setItem ov iv new); release [new, ov, iv] []; pure .next) := by
  intro ov iv new
  cases i <;> first | rfl | cases h
def swLine (sc scope : Scope) (y : Str) (py pos : Pos) : Bool := (py.line == pos.line) && !(scope.names.any fun (n, k) => n == y && (k == .local || k == .cell))
theorem sw_cell {elt : Expr} {gs : List Comprehension} {scope : Scope} {pos py : Pos} {y : Str} {l : Nat} {env : PySem.Env} (hy : env.scope.names.lookup y = some .cell) : swapsWith (.ListComp elt gs scope pos) (some (.Name y py)) l env = pure false := by
  have ky : env.kindOf y = some .cell := hy
  unfold swapsWith
  simp only [ky]
  cases env.blockKind <;> rfl
/-- what is not served -/
def stuckS : S := .expr (.ix .non .non)
/-- a pair of statements: a replacing behind a look at a written text -/
def cRpl (n : Nat) (c : CC) : Stmt → Stmt → Option (S × S)
  | .Assign [.Name x _] (.IfExp (.Compare a [op] [.Constant (.str m) n1 q1] _) A B _) _, .Assign [.Name y _] (.Call (.Attribute o mm ap) [.Constant (.str p) _ _, .Constant (.str q) _ _] [] cp) _ =>
    if mm = ("replace" : Str) ∧ stoB c x = true ∧ stoB c y = true ∧ behindInMarks op (.Constant (.str m) n1 q1) = false ∧ (p == q) = false ∧ recvB o = true ∧ (ap.endLine == cp.line) = true then (match idx c.N x, idx c.N y, cE n c a, cE n c A, cE n c B, cE n c o with
      | some i, some j, some ta, some tA, some tB, some to => some (.asg (.v i) (.ife (.cmp op ta (.str m)) tA tB), .asg (.v j) (.rpl to p q))
      | _, _, _, _, _, _ => none) else none
  | _, _ => none
/-- a block, by statements and pairs of statements -/
def cList (f : Stmt → S) (g : Stmt → Stmt → Option (S × S)) : List Stmt → List S
  | [] => []
  | [s] => [f s]
  | s :: s2 :: ss => match g s s2 with
    | some (a, b) => a :: b :: cList f g ss
    | none => f s :: cList f g (s2 :: ss)
mutual
def cS : Nat → CC → Stmt → Option S
  | 0, _, _ => none
  | n + 1, c, s => match s with
    | .Expr e _ => if notComp e = true then (cE n c e).map .expr else none
    | .Return (some e) _ => (cE n c e).map .ret
    | .Return none _ => some .retN
    | .Pass _ => some .pass
    | .Break _ => some .brk
    | .Continue _ => some .cnt
    | .If t a b _ => (match cT n c t, cB n c a, cB n c b with
      | some x, some y, some z => some (.ife x y z)
      | _, _, _ => none)
    | .While t b [] _ => (match cT n c t, cB n c b with
      | some x, some y => some (.whl x y)
      | _, _ => none)
    | .For tg it b [] _ => (match cG n c tg, cI n c tg it, cB n c b with
      | some g, some (k, ts), some y => some (.for_ g k ts y)
      | _, _, _ => none)
    | .AugAssign (.Name x _) op e _ => if stoB c x = true then (match idx c.N x, cE n c e with
      | some i, some t => some (.aug i op t)
      | _, _ => none) else none
    | .Assign [.Name x px] (.ListComp elt gens scope pos) _ => (match idx c.N x with
      | some i => if c.sc.names.lookup x = some .local then (if swLine c.sc scope x px pos = true then (cComp n c elt gens scope).map (.asg (.v i)) else none)
        else if c.sc.names.lookup x = some .cell ∧ c.top = true then (cE n c (.ListComp elt gens scope pos)).map (.asg (.v i)) else none
      | none => none)
    | .Assign [.Name x _] e _ => if notComp e = true ∧ stoB c x = true then (match idx c.N x, cE n c e with
      | some i, some t => some (.asg (.v i) t)
      | _, _ => none) else none
    | .Assign [.Subscript o i _] e _ => if notComp e = true ∧ plainIxB i = true then (match cE n c e, cE n c o, cE n c i with
      | some t, some x, some y => some (.setIx x y t)
      | _, _, _ => none) else none
    | .Assign [.Tuple ts kt pt] e p => cTupAsg n c ts kt pt e p
    | .Assign [.Attribute o f _] e _ => if notComp e = true ∧ f ∈ c.cf then (match cE n c e, cE n c o with
      | some t, some x => some (.setFld x f t)
      | _, _ => none) else none
    | .AugAssign (.Attribute o f _) op e _ => if f ∈ c.cf then (match cE n c o, cE n c e with
      | some x, some t => some (.augFld x f op t)
      | _, _ => none) else none
    | .AugAssign (.Subscript o i _) op e _ => if plainIxB i = true then (match cE n c o, cE n c i, cE n c e with
      | some x, some y, some t => some (.augIx x y op t)
      | _, _, _ => none) else none
    | .Raise (some (.Call (.Name x _) [e] [] _)) none _ => if c.top = true ∧ gloB c.sc x = true ∧ plainName x = true ∧ notStar e = true then (match rowF c.xs x, cEs n c [e] with
      | some f, some [t] => some (.rse x [f] [t])
      | _, _ => none) else none
    | .Try [b] (h₀ :: hds) [] [] _ => if c.top = true then (match cTry n c b, mapO (cHd n c) (h₀ :: hds) with
      | some (ret, t), some l => some (.try_ ret (hdM l) t (hdT c.xs l))
      | _, _ => none) else none
    | _ => none
def cTupAsg : Nat → CC → List Expr → Nat → Pos → Expr → Pos → Option S
  | 0, _, _, _, _, _, _ => none
  | n + 1, c, ts, kt, pt, e, p => if notComp e = true then (match e with
    | .Tuple vs k2 p2 => (match swNames c.sc ts vs with
      | some none => (match cG n c (.Tuple ts kt pt), cE n c (.Tuple vs k2 p2) with
        | some g, some t => some (.asg g t)
        | _, _ => none)
      | some (some _) => (match ts, vs with
        | [.Name x _, .Name y _], [a, b] => if swNames c.sc ts vs = some (some [x, y]) ∧ c.sc.names.lookup x = some .local ∧ c.sc.names.lookup y = some .local then (match idx c.N x, idx c.N y, cEs n c [a, b] with
          | some i, some j, some xs => if i ≠ j then some (.par [i, j] xs) else none
          | _, _, _ => none) else none
        | [.Name x _, .Name y _, .Name z _], [a, b, d] => if swNames c.sc ts vs = some (some [x, y, z]) ∧ c.sc.names.lookup x = some .local ∧ c.sc.names.lookup y = some .local ∧ c.sc.names.lookup z = some .local then (match idx c.N x, idx c.N y, idx c.N z, cEs n c [a, b, d] with
          | some i, some j, some l, some xs => if i ≠ j ∧ i ≠ l ∧ j ≠ l then some (.par [i, j, l] xs) else none
          | _, _, _, _ => none) else none
        | _, _ => none)
      | none => none)
    | e => (match cG n c (.Tuple ts kt pt), cE n c e with
      | some g, some t => if notTup e = true then some (.asg g t) else none
      | _, _ => none)) else none
def cB : Nat → CC → List Stmt → Option (List S)
  | 0, _, _ => none
  | n + 1, c, ss => some (cList (fun s => (cS n c s).getD stuckS) (cRpl n c) ss)
end
def SS (n : Nat) : Prop := ∀ {k : Nat} {c : CC} {C : CalT} {E : XK} {X : Cx} {s : Stmt} {t : S}, Okc k c C (kE E) X → cS n c s = some t → PS X s (rdS X.K E (ex C t))
def STA (n : Nat) : Prop := ∀ {k : Nat} {c : CC} {C : CalT} {E : XK} {X : Cx} {ts : List Expr} {kt : Nat} {pt p : Pos} {e : Expr} {t : S}, Okc k c C (kE E) X → cTupAsg n c ts kt pt e p = some t → PS X (.Assign [.Tuple ts kt pt] e p) (rdS X.K E (ex C t))
def SB (n : Nat) : Prop := ∀ {k : Nat} {c : CC} {C : CalT} {E : XK} {X : Cx} {ss : List Stmt} {ts : List S}, Okc k c C (kE E) X → cB n c ss = some ts → PSs X ss (rdS X.K E (exs C ts))
section
variable {C : CalT}
theorem ex_asg {g : G} {t : T} : ex C (.asg g t) = fun σ st => bnd (ev C t σ st) fun d st => match asgG g d σ with
    | some σ' => ok (.nx σ') st
    | none => none := by funext σ st; rw [ex] <;> rfl
theorem ex_set {i : Nat} {t : T} : ex C (.asg (.v i) t) = fun σ st => bnd (ev C t σ st) fun d st => ok (.nx (σ.set i (some d))) st := by
  rw [ex_asg]
  funext σ st
  congr 1
theorem ex_par {is : List Nat} {ts : List T} : ex C (.par is ts) = fun σ st => bnd (evs C ts σ st) fun ds st => match setAll is ds σ with
    | some σ' => ok (.nx σ') st
    | none => none := by funext σ st; rw [ex] <;> rfl
theorem exs_nil : exs C [] = fun σ st => ok (.nx σ) st := by funext σ st; rw [exs]
theorem exs_cons {s : S} {ss : List S} : exs C (s :: ss) = fun σ st => bnd (ex C s σ st) fun f st => match f with
    | .nx σ' => exs C ss σ' st
    | f => ok f st := by funext σ st; rw [exs] <;> rfl
end
theorem stepTA {n : Nat} : STA (n + 1) := by
  intro k c C E X ts kt pt p e t o h
  have al := all_ok n
  unfold cTupAsg at h
  obtain ⟨hn, hA⟩ := if_some h
  clear h
  have hsw : swapsWithSole [.Tuple ts kt pt] e p.line X.env = pure false := sole_of hn
  split at hA
  · rename_i vs k2 p2
    split at hA
    · rename_i hz
      split at hA
      · rename_i g t' e1 e2
        cases hA
        rw [ex_asg]
        exact sS_asg (al.e o e2) (cG_ok n o e1) hsw (swNames_ok o.sc o.kind hz) rfl
      · cases hA
    · split at hA
      · rename_i x px y py a b
        obtain ⟨⟨h1, h2, h3⟩, hB⟩ := if_some hA
        clear hA
        split at hB
        · rename_i i j xs e1 e2 e3
          obtain ⟨h4, hC⟩ := if_some hB
          clear hB
          cases hC
          obtain ⟨a1, a2, a3⟩ := al.as o e3
          rw [ex_par]
          exact sS_par2 o.calm o.nd' (o.ix e1) (o.ix e2) h4 (by rw [o.sc]; exact h2) (by rw [o.sc]; exact h3) a1 (swNames_ok o.sc o.kind h1) hsw
        · cases hB
      · rename_i x px y py z pz a b d
        obtain ⟨⟨h1, h2, h3, h5⟩, hB⟩ := if_some hA
        clear hA
        split at hB
        · rename_i i j l xs e1 e2 e4 e3
          obtain ⟨⟨h4, h6, h7⟩, hC⟩ := if_some hB
          clear hB
          cases hC
          obtain ⟨a1, a2, a3⟩ := al.as o e3
          rw [ex_par]
          exact sS_par3 o.calm o.nd' (o.ix e1) (o.ix e2) (o.ix e4) h4 h6 h7 (by rw [o.sc]; exact h2) (by rw [o.sc]; exact h3) (by rw [o.sc]; exact h5) a1 (swNames_ok o.sc o.kind h1) hsw
        · cases hB
      · cases hA
    · cases hA
  · split at hA
    · rename_i g t' e1 e2
      obtain ⟨h1, hB⟩ := if_some hA
      cases hB
      rw [ex_asg]
      exact sS_asg (al.e o e2) (cG_ok n o e1) hsw (swNone_of h1) rfl
    · cases hA
theorem stmt_one {n : Nat} (ih : SS n) {k : Nat} {c : CC} {C : CalT} {E : XK} {X : Cx} (o : Okc k c C (kE E) X) (s : Stmt) : PS X s (rdS X.K E (ex C ((cS n c s).getD stuckS))) := by
  cases e : cS n c s with
  | some t' => exact ih o e
  | none =>
    have e2 : ex C stuckS = fun _ _ => none := by funext σ st; unfold stuckS; rw [ex, ev, ev]; rfl
    rw [show ((none : Option S).getD stuckS) = stuckS from rfl, e2]
    exact ⟨fun pins s σ H Q I ⟨μ, env, st, hs, he, h⟩ => h.none.elim⟩
theorem rpl_eq {C : CalT} {i j : Nat} {op : CmpOp} {ta tA tB to : T} {m p q : Str} {SS : List S} :
    exs C (.asg (.v i) (.ife (.cmp op ta (.str m)) tA tB) :: .asg (.v j) (.rpl to p q) :: SS) = fun σ st => bnd (bnd (iteM (fun σ st => bnd (ev C ta σ st) fun x st => cmpop op x (.str m) st) (ev C tA) (ev C tB) σ st) fun d st => ok (.nx (σ.set i (some d))) st) (rplK (ev C to) (exs C SS) j p q) := by
  have e1 : ev C (.cmp op ta (.str m)) = fun σ st => bnd (ev C ta σ st) fun x st => cmpop op x (.str m) st := by
    funext σ st
    first
    | (simp only [ev, bnd_ok]; done)
    | (simp only [ev, bnd_ok]; rfl)
  have e2 : ev C (.ife (.cmp op ta (.str m)) tA tB) = iteM (fun σ st => bnd (ev C ta σ st) fun x st => cmpop op x (.str m) st) (ev C tA) (ev C tB) := by
    rw [← e1]
    funext σ st
    rw [ev] <;> rfl
  have e3 : ev C (.rpl to p q) = fun σ st => bnd (ev C to σ st) fun x st => rplop p q x st := by funext σ st; rw [ev]
  rw [exs_cons, ex_set, e2, exs_cons, ex_set, e3]
  first
  | rfl
  | (funext σ st
     congr 1
     funext f st1
     cases f <;> rfl)
theorem stepB {n : Nat} (ih : SS n) : SB (n + 1) := by
  intro k c C E X ss ts o h
  unfold cB at h
  cases h
  have al := all_ok n
  generalize hf : (fun s => (cS n c s).getD stuckS) = f
  have one : ∀ s, PS X s (rdS X.K E (ex C (f s))) := fun s => by rw [← hf]; exact stmt_one ih o s
  clear hf
  generalize hm : ss.length = m
  induction m using Nat.strongRecOn generalizing ss with
  | _ m ihm =>
  match ss, hm with
  | [], _ =>
    unfold cList
    rw [exs_nil]
    exact sB_nil
  | [s], _ =>
    unfold cList
    rw [exs_cons, exs_nil]
    exact sB_cons (one s) sB_nil
  | s :: s2 :: ss, hm =>
    unfold cList
    split
    · rename_i a b hg
      have rest := ihm ss.length (by rw [← hm, List.length_cons, List.length_cons]; omega) rfl
      unfold cRpl at hg
      split at hg
      · obtain ⟨⟨h1, h2, h3, h4, h5, h6, h7⟩, hB⟩ := if_some hg
        split at hB
        · rename_i e1 e2 e3 e4 e5 e6
          cases hB
          subst h1
          obtain ⟨s1, s3⟩ := o.sto h2
          obtain ⟨s4, s5⟩ := o.sto h3
          rw [rpl_eq]
          exact sB_rpl o.units o.nd' (o.ix e1) s1 s3 (o.ix e2) s4 s5 h4 (al.e o e3) (al.e o e4) (al.e o e5) (al.e o e6) rest h5 (recv_of h6) h7
        · cases hB
      · cases hg
    · rw [exs_cons]
      exact sB_cons (one s) (ihm (s2 :: ss).length (by rw [← hm, List.length_cons, List.length_cons, List.length_cons]; omega) rfl)
theorem stepS {n : Nat} (ihB : SB n) (ihT : STA n) : SS (n + 1) := by
  intro k c C E X s t o h
  have al := all_ok n
  unfold cS at h
  split at h
  · obtain ⟨h1, h2⟩ := if_some h
    obtain ⟨x, e1, rfl⟩ := opt_map h2
    have e3 : ex C (.expr x) = fun σ st => bnd (ev C x σ st) fun _ st => ok (.nx σ) st := by funext σ st; rw [ex]
    rw [e3]
    exact sS_expr (al.e o e1) (swaps_of h1)
  · obtain ⟨x, e1, rfl⟩ := opt_map h
    have e3 : ex C (.ret x) = fun σ st => bnd (ev C x σ st) fun d st => ok (.rt d) st := by funext σ st; rw [ex]
    rw [e3]
    exact sS_ret (al.e o e1)
  · cases h
    have e3 : ex C .retN = fun _ st => ok (.rt .non) st := by funext σ st; rw [ex]
    rw [e3]
    exact sS_retN
  · cases h
    have e3 : ex C .pass = fun σ st => ok (.nx σ) st := by funext σ st; rw [ex]
    rw [e3]
    exact sS_pass
  · cases h
    have e3 : ex C .brk = fun σ st => ok (.bk σ) st := by funext σ st; rw [ex]
    rw [e3]
    exact sS_brk
  · cases h
    have e3 : ex C .cnt = fun σ st => ok (.ct σ) st := by funext σ st; rw [ex]
    rw [e3]
    exact sS_cnt
  · split at h
    · rename_i x y z e1 e2 e4
      cases h
      have e3 : ex C (.ife x y z) = iteM (ev C x) (exs C y) (exs C z) := by funext σ st; rw [ex] <;> rfl
      rw [e3]
      exact sS_ife (al.t o e1) (ihB o e2) (ihB o e4)
    · cases h
  · split at h
    · rename_i x y e1 e2
      cases h
      have e3 : ex C (.whl x y) = fun σ st => whl (ev C x) (exs C y) σ st := by funext σ st; rw [ex]
      rw [e3]
      exact sS_whl o.po (al.t o e1) (ihB o e2)
    · cases h
  · split at h
    · rename_i g k ts y e1 e2 e4
      cases h
      have e3 : ex C (.for_ g k ts y) = fun σ st => bnd (evs C ts σ st) fun ds st => match items k ds st with
        | some (is, g') => forL g' g (exs C y) is σ st
        | none => none := by funext σ st; rw [ex] <;> rfl
      rw [e3]
      obtain ⟨i1, i2⟩ := al.i o e2
      exact sS_for rfl o.po o.calm i1 (cG_ok n o e1) (ihB o e4) (folded_of i2)
    · cases h
  · obtain ⟨h1, h2⟩ := if_some h
    split at h2
    · rename_i i t' e1 e2
      cases h2
      obtain ⟨s1, s2⟩ := o.sto h1
      rename_i x p1 op e p2 _ _
      have e3 : ex C (.aug i op t') = fun σ st => match σ[i]? with
        | some (some x) => bnd (ev C t' σ st) fun y st => bnd (augop op x y st) fun z st => ok (.nx (σ.set i (some z))) st
        | _ => none := by funext σ st; rw [ex] <;> rfl
      rw [e3]
      exact sS_aug o.nd' (o.ix e1) s1 (al.e o e2) s2
    · cases h2
  · split at h
    · rename_i x px elt gens scope pos sp _ i e1
      split at h
      · rename_i hl
        obtain ⟨h1, h2⟩ := if_some h
        obtain ⟨t', e2, rfl⟩ := opt_map h2
        rw [ex_set]
        obtain ⟨l1, l2⟩ := Bool.and_eq_true_iff.mp (show ((px.line == pos.line) && !(scope.names.any fun (n, k) => n == x && (k == .local || k == .cell))) = true from h1)
        exact (al.comp o e2).2 rfl (o.ix e1) (by rw [o.sc]; exact hl) (sw_true (by rw [o.sc]; exact o.kind) (by rw [o.sc]; exact hl) l1 (by simpa using l2))
      · obtain ⟨⟨h1, h3⟩, h2⟩ := if_some h
        obtain ⟨t', e2, rfl⟩ := opt_map h2
        rw [ex_set]
        have hc : X.env.scope.names.lookup x = some .cell := by rw [o.sc]; exact h1
        exact sS_set o.nd' (o.ix e1) (.inr hc) (al.e o e2) (sw_cell hc) (.inl (o.top h3 x))
    · cases h
  · obtain ⟨⟨h0, h1⟩, h2⟩ := if_some h
    split at h2
    · rename_i i t' e1 e2
      cases h2
      obtain ⟨s1, s2⟩ := o.sto h1
      rw [ex_set]
      exact sS_set o.nd' (o.ix e1) s1 (al.e o e2) (swaps_of h0) s2
    · cases h2
  · obtain ⟨⟨h0, h1⟩, h2⟩ := if_some h
    split at h2
    · rename_i t' x y e1 e2 e4
      cases h2
      have e3 : ex C (.setIx x y t') = fun σ st => bnd (ev C t' σ st) fun d st => bnd (ev C x σ st) fun x st => bnd (ev C y σ st) fun k st => match setIxop x k d st with
        | some st' => ok (.nx σ) st'
        | none => none := by funext σ st; rw [ex] <;> rfl
      rw [e3]
      exact sS_setIx (al.e o e1) (al.e o e2) (al.e o e4) o.units (sub_of h1) (sole_of h0) (swNone_tg rfl) rfl
    · cases h2
  · exact ihT o h
  · obtain ⟨⟨h0, h1⟩, h2⟩ := if_some h
    split at h2
    · rename_i t' x e1 e2
      cases h2
      have e3 : ∀ f, ex C (.setFld x f t') = fun σ st => bnd (ev C t' σ st) fun d st => bnd (ev C x σ st) fun x st => match setFldop (fun _ => true) f x d st with
        | some st' => ok (.nx σ) st'
        | none => none := by intro f; funext σ st; rw [ex] <;> rfl
      rw [e3]
      exact sS_setFld (fun cl hcl => o.fld cl _ hcl h1) (al.e o e2) (al.e o e1) (swaps_of h0)
    · cases h2
  · obtain ⟨h1, h2⟩ := if_some h
    split at h2
    · rename_i x t' e1 e2
      cases h2
      have e3 : ∀ f op, ex C (.augFld x f op t') = fun σ st => bnd (ev C x σ st) fun x st => insOp x st fun _ c fs => match fs.lookup f with
        | some y => bnd (ev C t' σ st) fun d st => bnd (augop op y d st) fun z st => (match setFldop (fun c' => decide (c' = c)) f x z st with
          | some st' => ok (.nx σ) st'
          | none => none)
        | none => none := by intro f op; funext σ st; rw [ex] <;> rfl
      rw [e3]
      exact sS_augFld (fun cl hcl => o.fld cl _ hcl h1) (al.e o e1) (al.e o e2)
    · cases h2
  · obtain ⟨h1, h2⟩ := if_some h
    split at h2
    · rename_i x y t' e1 e2 e4
      cases h2
      have e3 : ∀ op, ex C (.augIx x y op t') = fun σ st => bnd (ev C x σ st) fun x st => bnd (ev C y σ st) fun k st => if isLst x st = true then bnd (ixop x k st) fun y st => bnd (ev C t' σ st) fun d st => bnd (augop op y d st) fun z st => match setIxop x k z st with
        | some st' => ok (.nx σ) st'
        | none => none else none := by intro op; funext σ st; rw [ex] <;> rfl
      rw [e3]
      exact sS_augIx (al.e o e1) (al.e o e2) (al.e o e4) o.units (aug_of h1)
    · cases h2
  · obtain ⟨⟨h1, h2, h3, h4⟩, h5⟩ := if_some h
    split at h5
    · rename_i f t' e1 e2
      cases h5
      exact sS_rse o h1 e1 h2 h3 (al.as o e2).1 h4
    · cases h5
  · obtain ⟨h1, h2⟩ := if_some h
    split at h2
    · rename_i ret t' l e1 e2
      cases h2
      exact sS_try al.e o h1 e1 e2
    · cases h2
  · cases h
theorem stmts_ok : ∀ n, SS n ∧ STA n ∧ SB n
  | 0 => ⟨by intro k c C E X s t o h; simp [cS] at h, by intro k c C E X ts kt pt p e t o h; simp [cTupAsg] at h, by intro k c C E X s t o h; simp [cB] at h⟩
  | n + 1 => by
    obtain ⟨a, b, d⟩ := stmts_ok n
    exact ⟨stepS d b, stepTA, stepB a⟩
end MP

set_option Elab.async false
set_option linter.all false
set_option maxRecDepth 100000
set_option maxHeartbeats 4000000
namespace MP
open PySem PySem.Spec PyProof.Rows L2

/-! ### the defs of a text -/
structure DE where
  d : He.DefD
  ps : List Str
  N : List Str
  body : List S
def DE.fd (e : DE) : FD := ⟨e.ps.length, e.N.length, e.body⟩
structure Tab where
  /-- functions by name -/
  ds : List (Str × DE)
  /-- methods by key -/
  md : List (Str × DE)
  fr : List Str
  lib : List (Str × String)
  cn : List (Str × D)
  cf : List Str
  ms : List Str
  cls : List Str
  /-- the defs that hold generator expressions -/
  tf : List He.Defn
  /-- own exceptions; the text's file -/
  xs : List XRow
  file : Str
def Tab.all (t : Tab) : List (Str × DE) := t.ds ++ t.md
def Tab.cc (t : Tab) (e : DE) : CC := ⟨e.d.scope, e.N, true, t.ds.map fun p => (p.1, p.2.ps), t.fr, t.lib, t.cn, t.cf, t.ms, t.cls, e.d.at_.1, decide (e.d.at_ ∈ t.tf), [], t.xs⟩
def Tab.P (t : Tab) (x : Str) : Option FD := (t.all.lookup x).map DE.fd
def scB (N ps : List Str) (sc : Scope) : Bool :=
  (match sc.kind with | .function => true | _ => false) && !sc.isCoroutine && !sc.isGenerator && decide N.Nodup && decide (N.take ps.length = ps) &&
    ps.all (fun x => match sc.names.lookup x with | some .local => true | some .cell => true | _ => false) && sc.names.all fun y => match y.2 with | .free => false | _ => true
theorem scB_ok {N ps : List Str} {sc : Scope} (h : scB N ps sc = true) : FnScope N ps sc := by
  unfold scB at h
  simp only [Bool.and_eq_true, List.all_eq_true, decide_eq_true_eq, Bool.not_eq_true'] at h
  obtain ⟨⟨⟨⟨⟨⟨h1, h2⟩, h3⟩, h4⟩, h5⟩, h6⟩, h7⟩ := h
  refine ⟨?_, h2, h3, h4, h5, fun x hx => ?_, fun y hy z => ?_⟩
  · split at h1
    · assumption
    · cases h1
  · have q := h6 x hx
    split at q
    · exact .inl (by assumption)
    · exact .inr (by assumption)
    · cases q
  · have q := h7 y hy
    rw [z] at q
    cases q
/-- what is looked at in the text, of one def -/
def DE.ok (e : DE) : Bool :=
  decide (e.d.dfl.length = 0) && decide (e.d.kwd.length = 0) && scB e.N e.ps e.d.scope && (e.d.params.posonlyargs.isEmpty && e.d.params.vararg.isNone && e.d.params.kwonlyargs.isEmpty && e.d.params.kwarg.isNone) && decide (e.d.params.args.map (·.arg) = e.ps)
def ptB (e : DE) : Bool := okCall e.ps e.ps.length [] (List.range e.ps.length)
def Tab.chk (t : Tab) : Bool :=
  t.all.all (fun p => p.2.ok) && t.ds.all (fun p => decide (p.2.d.at_ = (p.1, none))) &&
  t.cls.all (fun c => t.ms.all fun m => match t.all.lookup (mkey c m) with | some e => decide (e.d.at_ = (c, some m)) && ptB e | none => true) &&
  t.cls.all (fun c => match t.all.lookup (mkey c "__init__") with | some e => decide (e.d.at_ = (c, some ("__init__" : Str))) && ptB e | none => false)
theorem lookup_map {α β : Type} (f : α → β) {x : Str} : ∀ {l : List (Str × α)}, (l.map fun p => (p.1, f p.2)).lookup x = (l.lookup x).map f
  | [] => rfl
  | (y, a) :: l => by
    rw [List.map_cons, List.lookup_cons, List.lookup_cons]
    cases x == y with
    | true => rfl
    | false => exact lookup_map f
theorem lookup_left {α : Type} {x : Str} {a : α} : ∀ {l r : List (Str × α)}, l.lookup x = some a → (l ++ r).lookup x = some a
  | [], _, h => by cases h
  | (y, b) :: l, r, h => by
    rw [List.cons_append, List.lookup_cons]
    rw [List.lookup_cons] at h
    cases e : x == y with
    | true => rw [e] at h; exact h
    | false => rw [e] at h; exact lookup_left h
section
variable {P : Program} {w : World} {K : PySem.W.Frag} {mg : Str → Option Value} {base : Heap}
/-- what stands behind the top of a table's text -/
structure Stands [Gb] (t : Tab) (P : Program) (K : PySem.W.Frag) (mg : Str → Option Value) : Prop where
  exc : XOk t.xs P K mg
  glo : ∀ x e, t.ds.lookup x = some e → mg x = some (.ref (He.ga K x))
  fn : ∀ x e, t.all.lookup x = some e → ∃ fd, FunD K e.d.name e.d.qual e.d.params e.d.body e.d.scope [] [] (He.fAd K e.d.at_) fd
  chk : t.chk = true
  comp : ∀ x e, t.all.lookup x = some e → ∃ n, cB n (t.cc e) e.d.body = some e.body
  free : ∀ x ∈ t.fr, mg x = none
  lib : ∀ x id, t.lib.lookup x = some id → mg x = some (.builtin id)
  con : ∀ x d, t.cn.lookup x = some d → ∃ u v, mg x = some u ∧ RelV v u ∧ ∀ H μ, RD K H μ d v
  noat : ∀ cl ∈ t.cls, ∀ f ∈ t.cf, NoAttr K (He.ga K cl) f
  cls : ∀ cl ∈ t.cls, mg cl = some (.ref (He.ga K cl)) ∧ Cls K (He.ga K cl) ∧ Mk K (He.ga K cl) (He.ma K (He.ga K cl) "__init__")
  meth : ∀ cl ∈ t.cls, ∀ m ∈ t.ms, ∀ e, t.all.lookup (mkey cl m) = some e → Meth K (He.ga K cl) m (He.ma K (He.ga K cl) m)
theorem FunD.plain {x q : Str} {pa : Arguments} {b : List Stmt} {sc : Scope} {f : Addr} {fd : FuncData} {ps : List Str} (F : FunD K x q pa b sc [] [] f fd) (h1 : pa.posonlyargs = []) (h2 : pa.vararg = none) (h3 : pa.kwonlyargs = []) (h4 : pa.kwarg = none) (h5 : pa.args.map (·.arg) = ps) : Plain fd ps := by
  obtain ⟨oc, od, dV, kV, doc, pm, an, cdv, ct, osl, rfl, lk, hcd, hD, hK⟩ := F.ex
  rcases hD with ⟨_, rfl⟩ | ⟨e, _⟩
  · exact ⟨h1, h2, h3, h4, rfl, h5⟩
  · exact absurd rfl e
theorem DE.ok_plain {e : DE} (h : e.ok = true) {f : Addr} {fd : FuncData} (F : FunD K e.d.name e.d.qual e.d.params e.d.body e.d.scope [] [] f fd) : Plain fd e.ps ∧ FnScope e.N e.ps e.d.scope := by
  unfold DE.ok at h
  simp only [Bool.and_eq_true, decide_eq_true_eq] at h
  obtain ⟨⟨⟨⟨_, _⟩, h4⟩, h5⟩, h6⟩ := h
  exact ⟨FunD.plain F (List.isEmpty_iff.mp h5.1.1.1) (Option.isNone_iff_eq_none.mp h5.1.1.2) (List.isEmpty_iff.mp h5.1.2) (Option.isNone_iff_eq_none.mp h5.2) h6, scB_ok h4⟩
theorem Stands.ok [Gb] {t : Tab} (S : Stands t P K mg) {x : Str} {e : DE} (h : t.all.lookup x = some e) : e.ok = true := by
  have q := S.chk
  unfold Tab.chk at q
  simp only [Bool.and_eq_true] at q
  exact List.all_eq_true.mp q.1.1.1 _ (PySem.mem_of_lookup h)
theorem Stands.at_ [Gb] {t : Tab} (S : Stands t P K mg) {x : Str} {e : DE} (h : t.ds.lookup x = some e) : e.d.at_ = (x, none) := by
  have q := S.chk
  unfold Tab.chk at q
  simp only [Bool.and_eq_true] at q
  exact of_decide_eq_true (List.all_eq_true.mp q.1.1.2 _ (PySem.mem_of_lookup h))
theorem Stands.at_m [Gb] {t : Tab} (S : Stands t P K mg) {cl m : Str} {e : DE} (hc : cl ∈ t.cls) (hm : m ∈ t.ms) (h : t.all.lookup (mkey cl m) = some e) : e.d.at_ = (cl, some m) ∧ ptB e = true := by
  have q := S.chk
  unfold Tab.chk at q
  simp only [Bool.and_eq_true] at q
  have q2 := List.all_eq_true.mp (List.all_eq_true.mp q.1.2 _ hc) _ hm
  rw [h] at q2
  obtain ⟨a, b⟩ := Bool.and_eq_true_iff.mp q2
  exact ⟨of_decide_eq_true a, b⟩
theorem Stands.at_i [Gb] {t : Tab} (S : Stands t P K mg) {cl : Str} (hc : cl ∈ t.cls) : ∃ e, t.all.lookup (mkey cl "__init__") = some e ∧ e.d.at_ = (cl, some ("__init__" : Str)) ∧ ptB e = true := by
  have q := S.chk
  unfold Tab.chk at q
  simp only [Bool.and_eq_true] at q
  have q2 := List.all_eq_true.mp q.2 _ hc
  split at q2
  · rename_i e h
    obtain ⟨a, b⟩ := Bool.and_eq_true_iff.mp q2
    exact ⟨e, h, of_decide_eq_true a, b⟩
  · cases q2
/-- FunD.ok, the code object known -/
theorem funD_ok {CX : CXT} {N ps : List Str} {k : Nat} {sp : Sp} {x qual : Str} {params : Arguments} {body : List Stmt} {scope : Scope} {at_ : Str × Option Str} {fd : FuncData} (F : FunD K x qual params body scope [] [] (He.fAd K at_) fd) (S : FnScope N ps scope) (len : ∀ vs H Q E, sp vs H Q E → vs.length = ps.length)
    (hbody : ∀ (cdv : Value) (A : Around) (outer : List PySem.Env) (s : Shared) (H : Hp) (vs : List V) (Q : VK) (E : XK), cdv = .ref (He.codeOf K at_) → Room k (A.deeper (envOfC qual scope s.heap.objs.size (He.fAd K at_) cdv)) → sp vs H Q E →
      ∃ t, PSs (cxOf CX P w K mg base N qual scope (He.fAd K at_) cdv A outer s H E) body t ∧ t { nx := fun _ H' => Q .non H', rt := Q } (start N vs) H) : FnOk P w K mg base CX (k + 1) (He.fAd K at_) fd ps sp := by
  obtain ⟨oc, od, dV, kV, doc, pm, an, cdv, ct, osl, rfl, lk, hcd, _, _⟩ := F.ex
  obtain ⟨cc, e⟩ := He.codeIn_ref hcd
  exact fn_of lk hcd S len fun A outer s H vs Q E hr hsp => hbody cdv A outer s H vs Q E (by rw [He.codeOf_eq lk (by show cdv = _; exact e)]; exact e) hr hsp
variable [Gb]
/-- EVERY DEF does what the interpreter says -/
theorem defs_ok {t : Tab} (S : Stands t P K mg) (hG : Gb.cls = t.cls) (hT : ∀ p ∈ t.tf, (He.cT K p).2 ∈ Gb.ts) (TB : ∀ p ∈ t.tf, GxR.TabB base mg (He.cT K p).1 (He.cT K p).2) : ∀ (n : Nat) (x : Str) (e : DE), t.all.lookup x = some e → ∀ fd, FunD K e.d.name e.d.qual e.d.params e.d.body e.d.scope [] [] (He.fAd K e.d.at_) fd → FnOk P w K mg base (L2.CX P w) (3 * n) (He.fAd K e.d.at_) fd e.ps (spC K (call t.P n x) e.ps.length)
  | 0, x, e, h, fd, F => by
    refine ⟨fun vs H Q E q => q.1, ?_⟩
    rintro A outer s H args us vs Q E hr e0 hb r ⟨_, μ, st, ds, hs, rd, h⟩
    exact h.none.elim
  | n + 1, x, e, h, fd, F => by
    obtain ⟨pl, scf⟩ := DE.ok_plain (S.ok h) F
    obtain ⟨m, hc⟩ := S.comp x e h
    have calls : ∀ {y : Str} {ds : List D} {st : Sto}, call t.P n y ds st ≠ none → ∃ e2, t.all.lookup y = some e2 ∧ ds.length = e2.ps.length := fun {y ds st} hne => by
      cases n with
      | zero => exact absurd rfl hne
      | succ n =>
        unfold call at hne
        cases q : t.P y with
        | none => rw [q] at hne; exact absurd rfl hne
        | some fd2 =>
          rw [q] at hne
          obtain ⟨e2, h2, h3⟩ := opt_map (show (t.all.lookup y).map DE.fd = some fd2 from q)
          dsimp only at hne
          by_cases hl : ds.length = fd2.np
          · exact ⟨e2, h2, by rw [hl, ← h3]; rfl⟩
          · rw [if_neg hl] at hne; exact absurd rfl hne
    refine funD_ok (k := 3 * n + 2) F scf (fun vs H Q E q => q.1) fun cdv A outer s H vs Q E hcdv hr q => ?_
    obtain ⟨hl, μ, st, ds, hs, rd, ha⟩ := q
    refine ⟨rdS K E (exs (call t.P n) e.body), ?_, ?_⟩
    · refine (stmts_ok m).2.2 (k := 3 * n) (c := t.cc e) ⟨rfl, rfl, scf.nd, rfl, scf.kind, fun _ _ => rfl, by have := hr.un; show (A.deeper (envOfC e.d.qual e.d.scope s.heap.objs.size (He.fAd K e.d.at_) cdv)).units + 64 < cLine; omega, passes_of (K := fun e' s'' => L2.CX P w outer H s E e' s'') rfl, ?_, fun _ => hr, takes_of rfl rfl rfl rfl, fun f ps hf => ?_, fun cl mm hcl hmm ds2 st2 hne => ?_, fun x2 hx2 => ?_, S.free, S.lib, S.con, (fun x hx => by cases hx), fun cl f hcl hf => S.noat cl (by rw [← hG]; exact hcl) f hf, fun _ => ⟨rfl, rfl⟩, fun _ => S.exc, fun hgen => ?_⟩ hc
      · exact Room.mono hr (by omega)
      · have hf : (t.ds.map fun p => (p.1, p.2.ps)).lookup f = some ps := hf
        rw [lookup_map DE.ps] at hf
        obtain ⟨e2, h2, rfl⟩ := opt_map hf
        have h3 : t.all.lookup f = some e2 := lookup_left h2
        obtain ⟨fd3, F3⟩ := S.fn f e2 h3
        have ea : He.fAd K e2.d.at_ = He.ga K f := by rw [S.at_ h2]; rfl
        have G := defs_ok S hG hT TB n f e2 h3 fd3 F3
        rw [ea] at F3 G
        exact ⟨He.ga K f, fd3, S.glo f e2 h2, F3.kp, (DE.ok_plain (S.ok h3) F3).1, G⟩
      · obtain ⟨e2, h3, hl2⟩ := calls hne
        have hcl2 : cl ∈ t.cls := by rw [← hG]; exact hcl
        obtain ⟨ha2, hp2⟩ := S.at_m hcl2 hmm h3
        obtain ⟨fd3, F3⟩ := S.fn _ e2 h3
        have ea : He.fAd K e2.d.at_ = He.ma K (He.ga K cl) mm := by rw [ha2]; rfl
        have G := defs_ok S hG hT TB n _ e2 h3 fd3 F3
        rw [ea] at F3 G
        exact ⟨_, fd3, e2.ps, S.meth cl hcl2 mm hmm e2 h3, (DE.ok_plain (S.ok h3) F3).1, G, hl2, hp2⟩
      · obtain ⟨k1, k2, k3⟩ := S.cls x2 hx2
        obtain ⟨e2, h3, ha2, hp2⟩ := S.at_i hx2
        obtain ⟨fd3, F3⟩ := S.fn _ e2 h3
        have ea : He.fAd K e2.d.at_ = He.ma K (He.ga K x2) "__init__" := by rw [ha2]; rfl
        have G := defs_ok S hG hT TB n _ e2 h3 fd3 F3
        rw [ea] at F3 G
        refine ⟨by rw [hG]; exact hx2, k1, k2, _, fd3, e2.ps, k3, (DE.ok_plain (S.ok h3) F3).1, G, hp2, fun ds2 st2 hne => ?_⟩
        obtain ⟨e4, h4, hl4⟩ := calls hne
        rw [h3] at h4; cases h4
        exact hl4
      · have hgen : e.d.at_ ∈ t.tf := of_decide_eq_true hgen
        exact ⟨_, _, TB _ hgen, by show cdv = _; rw [hcdv]; rfl, hT _ hgen⟩
    · have hP : t.P x = some e.fd := by unfold Tab.P; rw [h]; rfl
      unfold call at ha
      rw [hP] at ha
      dsimp only at ha
      obtain ⟨hlen, ha⟩ := ha.ite
      have hb := fin_of hs ha
      obtain ⟨y, s', e1, z⟩ := hb
      refine ⟨μ, ds.map some ++ List.replicate (e.fd.nv - ds.length) none, st, hs, ?_, y, s', e1, ?_⟩
      · refine ⟨?_, fun i d hi => ?_⟩
        · unfold L2.start
          rw [List.length_append, List.length_append, List.length_map, List.length_map, List.length_replicate, List.length_replicate, rd.length]
          rfl
        · have hi2 : i < ds.length := by
            by_cases hlt : i < ds.length
            · exact hlt
            · rw [List.getElem?_append_right (by rw [List.length_map]; omega), List.getElem?_replicate] at hi
              split at hi <;> cases hi
          rw [List.getElem?_append_left (by rw [List.length_map]; exact hi2), List.getElem?_map, List.getElem?_eq_getElem hi2] at hi
          have hd : ds[i] = d := Option.some.inj (Option.some.inj hi)
          obtain ⟨v, e2, r2⟩ := rd.get (List.getElem?_eq_getElem hi2)
          refine ⟨v, ?_, by rw [← hd]; exact r2⟩
          unfold L2.start
          rw [List.getElem?_append_left (by rw [List.length_map, rd.length]; exact hi2), List.getElem?_map, e2]
          rfl
      · cases y with
        | error er => exact z
        | ok f => exact z
end
end MP

set_option Elab.async false
set_option linter.all false
set_option maxRecDepth 100000
set_option maxHeartbeats 4000000
namespace MP
open PySem PySem.Spec PyProof.Rows L2

/-! ### constants -/
mutual
def dK (K : PySem.W.Frag) : D → Value → Bool
  | .non, .none => true
  | .bl b, .bool c => decide (b = c)
  | .int i, .int j _ => decide (i = j)
  | .str s, .str z _ => decide (s = z)
  | .tup ds, .ref a => (match K.lookup a with
    | some ⟨.type c, _, .seq its _, _⟩ => decide (c = "tuple") && (decide (its.size ≤ sizeLine) && dKs K ds its.toList)
    | _ => false)
  | .rol ds, .ref a => (match K.lookup a with
    | some ⟨.type c, none, .seq its _, _⟩ => decide (c = "list") && (decide (its.size ≤ sizeLine) && dKs K ds its.toList)
    | _ => false)
  | _, _ => false
def dKs (K : PySem.W.Frag) : List D → List Value → Bool
  | [], [] => true
  | d :: ds, u :: us => dK K d u && dKs K ds us
  | _, _ => false
end
section
variable [Gb]
mutual
theorem dK_ok {K : PySem.W.Frag} : ∀ (d : D) (u : Value), dK K d u = true → ∃ v, RelV v u ∧ ∀ H μ, RD K H μ d v
  | .non, u, h => by
    cases u <;> first | exact ⟨.non, rfl, fun _ _ => rfl⟩ | cases h
  | .bl b, u, h => by
    cases u with
    | bool c =>
      have e : b = c := of_decide_eq_true h
      subst e
      exact ⟨.bl b, rfl, fun _ _ => rfl⟩
    | _ => cases h
  | .int i, u, h => by
    cases u with
    | int j t =>
      have e : i = j := of_decide_eq_true h
      subst e
      exact ⟨.int i, ⟨t, rfl⟩, fun _ _ => rfl⟩
    | _ => cases h
  | .str s, u, h => by
    cases u with
    | str j t =>
      have e : s = j := of_decide_eq_true h
      subst e
      exact ⟨.str s, ⟨t, rfl⟩, fun _ _ => rfl⟩
    | _ => cases h
  | .tup ds, u, h => by
    cases u with
    | ref a =>
      unfold dK at h
      split at h
      · rename_i c od its n sl e
        obtain ⟨h1, h2⟩ := Bool.and_eq_true_iff.mp h
        obtain ⟨h3, h4⟩ := Bool.and_eq_true_iff.mp h2
        have h1 : c = "tuple" := of_decide_eq_true h1
        subst h1
        obtain ⟨vs, r, q⟩ := dKs_ok ds its.toList h4
        exact ⟨.ref a, rfl, fun H μ => ⟨a, vs, rfl, .inr ⟨_, its, n, e, rfl, rfl, of_decide_eq_true h3, r⟩, q H μ⟩⟩
      · cases h
    | _ => cases h
  | .rol ds, u, h => by
    cases u with
    | ref a =>
      unfold dK at h
      split at h
      · rename_i c its n sl e
        obtain ⟨h1, h2⟩ := Bool.and_eq_true_iff.mp h
        obtain ⟨h3, h4⟩ := Bool.and_eq_true_iff.mp h2
        have h1 : c = "list" := of_decide_eq_true h1
        subst h1
        obtain ⟨vs, r, q⟩ := dKs_ok ds its.toList h4
        exact ⟨.ref a, rfl, fun H μ => ⟨a, vs, rfl, .inr ⟨_, its, n, e, rfl, rfl, rfl, of_decide_eq_true h3, r⟩, q H μ⟩⟩
      · cases h
    | _ => cases h
  | .loc _, u, h => by cases u <;> cases h
theorem dKs_ok {K : PySem.W.Frag} : ∀ (ds : List D) (us : List Value), dKs K ds us = true → ∃ vs, Vals vs us ∧ ∀ H μ, RDs K H μ ds vs
  | [], us, h => by
    cases us with
    | nil => exact ⟨[], .nil, fun _ _ => rfl⟩
    | cons _ _ => cases h
  | d :: ds, us, h => by
    cases us with
    | nil => cases h
    | cons u us =>
      obtain ⟨h1, h2⟩ := Bool.and_eq_true_iff.mp (show (dK K d u && dKs K ds us) = true from h)
      obtain ⟨v, r, q⟩ := dK_ok d u h1
      obtain ⟨vs, rs, qs⟩ := dKs_ok ds us h2
      exact ⟨v :: vs, .cons r rs, fun H μ => ⟨v, vs, rfl, q H μ, qs H μ⟩⟩
end
end

/-! ### a list that is read only -/
theorem hok_frz {P : Program} {w : World} {H : Hp} {h : Heap} {a : Addr} {xs : List V} {o : Obj} (hok : HOk P w H h) (hH : H a = some (.lst xs)) (ho : h.get? a = some o) : HOk P w (upd H a (.frz o (.lst xs))) h := by
  intro b u e
  by_cases hb : b = a
  · subst hb
    rw [upd_same] at e
    cases e
    exact ⟨ho, hok b _ hH⟩
  · rw [upd_ne hb] at e
    refine (hok b u e).stay (fun _ _ _ q => q) (fun c q => ?_) fun c ys q => ?_
    · rw [upd_ne fun z => by subst z; rw [hH] at q; cases q]; exact q
    · rw [upd_ne fun z => by subst z; rw [hH] at q; cases q]; exact q
section
variable {P : Program} {w : World} {K : PySem.W.Frag} {mg : Str → Option Value} {base : Heap} {k : Nat} {f : Addr} {fd : FuncData} {ps : List Str} {sp sp' : Sp}
theorem FnOk.frz (F : FnOk P w K mg base (L2.CX P w) k f fd ps sp) : FnOk P w K mg base (L2.CX P w) k f fd ps (fun vs H Q E => ∃ a xs, H a = some (.lst xs) ∧ ∀ o, sp vs (upd H a (.frz o (.lst xs))) Q E) := by
  refine ⟨fun vs H Q E ⟨a, xs, _, h⟩ => F.len vs _ Q E (h { cls := .none, data := .plain }), ?_⟩
  rintro A outer s H args us vs Q E hr e0 hb r ⟨a, xs, hH, hsp⟩
  obtain ⟨_, its, n, _, ho⟩ := e0.hok a _ hH
  have nn : ∀ (o : Obj) b, H b = none → upd H a (.frz o (.lst xs)) b = none := fun o b e => by rw [upd_ne fun z => by subst z; rw [hH] at e; cases e]; exact e
  have n2 : ∀ (o : Obj) b u, H b = some u → (∀ ys, u ≠ .lst ys) → upd H a (.frz o (.lst xs)) b = some u := fun o b u e d => by rw [upd_ne fun z => by subst z; rw [hH] at e; exact d xs (Option.some.inj e).symm]; exact e
  refine codeAny_mono (F.run A outer s _ args us vs Q E hr ⟨e0.frames, e0.mod, fun b o e => ⟨(e0.bs b o e).1, nn _ b (e0.bs b o e).2⟩, e0.bsz, e0.funs, fun b hb => nn _ b (e0.frf b hb), hok_frz e0.hok hH ho, e0.bare⟩ hb r (hsp _)) fun rr s' h => ?_
  cases rr with
  | error e =>
    obtain ⟨a1, B, H', cls, d, h1, h2, h3, ub, h5, h6, h7, h8⟩ := h
    exact ⟨a1, B, H', cls, d, h1, h2, h3, ⟨fun b o e n => ub.keep b o e (nn _ b n), ub.slot, fun b o e n => ub.free b o e (nn _ b n), ub.there, fun b ys e => ub.tups b ys (n2 _ b _ e fun _ z => by cases z), fun b o ys e => ub.frzs b o ys (n2 _ b _ e fun _ z => by cases z), fun b ps e => ub.tbls b ps (n2 _ b _ e fun _ z => by cases z)⟩, h5, h6, h7, h8⟩
  | ok fl =>
    cases fl with
    | ret u =>
      obtain ⟨v, H', os, bare, un, hok, rv, q⟩ := h
      exact ⟨v, H', os, bare, ⟨fun b o e n => un.keep b o e (nn _ b n), fun b o e n => un.slot b o e (nn _ b n), fun b o e n => un.free b o e (nn _ b n), un.there, fun b ys e => un.tups b ys (n2 _ b _ e fun _ z => by cases z), fun b o ys e => un.frzs b o ys (n2 _ b _ e fun _ z => by cases z), fun b ps e => un.tbls b ps (n2 _ b _ e fun _ z => by cases z)⟩, hok, rv, q⟩
    | next => exact False.elim h
    | brk => exact False.elim h
    | cont => exact False.elim h
theorem FnOk.or (F : FnOk P w K mg base (L2.CX P w) k f fd ps sp) (F' : FnOk P w K mg base (L2.CX P w) k f fd ps sp') : FnOk P w K mg base (L2.CX P w) k f fd ps (fun vs H Q E => sp vs H Q E ∨ sp' vs H Q E) :=
  ⟨fun vs H Q E h => h.elim (F.len vs H Q E) (F'.len vs H Q E), fun A outer s H args us vs Q E hr e0 hb r h => h.elim (F.run A outer s H args us vs Q E hr e0 hb r) (F'.run A outer s H args us vs Q E hr e0 hb r)⟩
end

/-! ### the law, from the interpreter -/
def scriptD (ns : List Int) : D := .rol (ns.map .int)
theorem ints_rd [Gb] {K : PySem.W.Frag} {H : Hp} {μ : List Addr} : ∀ ns : List Int, RDs K H μ (ns.map .int) (ns.map V.int)
  | [] => rfl
  | n :: ns => ⟨_, _, rfl, rfl, ints_rd ns⟩
/-- the facts that the head is asked for -/
def Tab.fa (t : Tab) : List He.Fa := t.ds.map (fun p => .glo p.1) ++ t.fr.map .free ++ (t.cls.flatMap fun c => [.glo c, .cls c, .mkr c]) ++ (t.cls.flatMap fun c => t.cf.map (.noat c)) ++ t.cls.flatMap fun c => t.ms.filterMap fun m => if (t.all.lookup (mkey c m)).isSome = true then some (.meth c m) else none
def Tab.fn (t : Tab) : List He.DefD := t.all.map (·.2.d)
def Tab.ex (t : Tab) (K : PySem.W.Frag) : Bool := Sup.excB K t.file t.xs && ((t.lib.all fun p => match PySem.W.nsIn K mainGlobals p.1 with
  | some (some (.builtin id)) => decide (id = p.2)
  | _ => false) && t.cn.all fun p => match PySem.W.nsIn K mainGlobals p.1 with
  | some (some u) => dK K p.2 u
  | _ => false)
/-- what is looked at of the text itself -/
def Tab.pok (t : Tab) (P : Program) : Bool := (P.main.file == t.file) && !(P.main.scope.names.lookup ("super" : Str)).isSome
theorem stands {t : Tab} {P : Program} {w : World} {h : Heap} {K : PySem.W.Frag} {mg : Str → Option Value} [Gb] (KX : K.In h) (G : h.Ns mainGlobals mg) (c : He.SaysX t.fa t.fn [] t.tf t.ex w h K) (ok : t.chk = true)
    (comp : ∀ p ∈ t.all, ∃ n, cB n (t.cc p.2) p.2.d.body = some p.2.body) (pok : t.pok P = true) (hx : Gb.xk = (t.xs.filter (·.rs)).map (·.nm)) : Stands t P K mg := by
  have more := c.more
  unfold Tab.ex at more
  obtain ⟨m0, more⟩ := Bool.and_eq_true_iff.mp more
  obtain ⟨m1, m2⟩ := Bool.and_eq_true_iff.mp more
  unfold Tab.pok at pok
  obtain ⟨p1, p2⟩ := Bool.and_eq_true_iff.mp pok
  have fact : ∀ f, f ∈ t.fa → f.ok K = true := fun f hf => c.t.d.facts hf
  refine ⟨excB_ok KX G m0 p1 (by simpa using p2) hx, fun x e hx => ?_, fun x e hx => ?_, ok, fun x e hx => comp _ (PySem.mem_of_lookup hx), fun x hx => ?_, fun x id hx => ?_, fun x d hx => ?_, fun cl hcl f hf => ?_, fun cl hcl => ?_, fun cl hcl m hm e he => ?_⟩
  · refine He.glo_ok KX G (fact (.glo x) ?_)
    unfold Tab.fa
    simp only [List.mem_append, List.mem_map]
    exact .inl (.inl (.inl (.inl ⟨(x, e), PySem.mem_of_lookup hx, rfl⟩)))
  · have hm := PySem.mem_of_lookup hx
    obtain ⟨fd, F⟩ := c.t.d.defs (d := e.d) (List.mem_map.mpr ⟨(x, e), hm, rfl⟩)
    have q := ok
    unfold Tab.chk at q
    simp only [Bool.and_eq_true] at q
    have q : e.ok = true := List.all_eq_true.mp q.1.1.1 _ hm
    unfold DE.ok at q
    simp only [Bool.and_eq_true, decide_eq_true_eq] at q
    obtain ⟨⟨⟨⟨h2, h3⟩, _⟩, _⟩, _⟩ := q
    have e1 : e.d.dvs K = [] := by unfold He.DefD.dvs; rw [List.eq_nil_of_length_eq_zero h2]; rfl
    have e2 : e.d.kws K = [] := by unfold He.DefD.kws; rw [List.eq_nil_of_length_eq_zero h3]; rfl
    rw [e1, e2] at F
    exact ⟨fd, F⟩
  · refine He.free_ok KX G (fact (.free x) ?_)
    unfold Tab.fa
    simp only [List.mem_append, List.mem_map]
    exact .inl (.inl (.inl (.inr ⟨x, hx, rfl⟩)))
  · have q := List.all_eq_true.mp m1 _ (PySem.mem_of_lookup hx)
    dsimp only at q
    split at q
    · rename_i e
      have z := of_decide_eq_true q
      rw [z] at e
      exact PySem.W.mg_of KX G e
    · cases q
  · have q := List.all_eq_true.mp m2 _ (PySem.mem_of_lookup hx)
    dsimp only at q
    split at q
    · rename_i u e
      obtain ⟨v, r, z⟩ := dK_ok d u q
      exact ⟨u, v, PySem.W.mg_of KX G e, r, z⟩
    · cases q
  · refine He.noat_ok (fact (.noat cl f) ?_)
    unfold Tab.fa
    simp only [List.mem_append, List.mem_flatMap, List.mem_map]
    exact .inl (.inr ⟨cl, hcl, f, hf, rfl⟩)
  · have mem : ∀ q, q ∈ [He.Fa.glo cl, .cls cl, .mkr cl] → q.ok K = true := fun q hq => fact q (by
      unfold Tab.fa
      simp only [List.mem_append, List.mem_flatMap]
      exact .inl (.inl (.inr ⟨cl, hcl, hq⟩)))
    exact ⟨He.glo_ok KX G (mem (.glo cl) (by simp)), He.cls_ok (mem (.cls cl) (by simp)), He.mkr_ok (mem (.mkr cl) (by simp))⟩
  · refine He.meth_ok (fact (.meth cl m) ?_)
    unfold Tab.fa
    simp only [List.mem_append, List.mem_flatMap, List.mem_filterMap]
    exact .inr ⟨cl, hcl, m, hm, by rw [he]; rfl⟩
/-! ### the Hook: He's, the C statics in K too -/
def asY (g : Addr → Option Obj) (n : Nat) : List Addr := cStatics :: He.asD g n
def obsY (n : Nat) (fa : List He.Fa) (fn : List He.DefD) (tf : List He.Defn) (ex : PySem.W.Frag → Bool) (g : Addr → Option Obj) : He.AlX := (He.obsT fa fn [] (He.frT g (asY g n)), ex (He.frT g (asY g n)) && He.tabsB g tf (He.frT g (asY g n)))
theorem saysY_of {n : Nat} {fa : List He.Fa} {fn : List He.DefD} {tf : List He.Defn} {ex : PySem.W.Frag → Bool} {w : World} {h : Heap} (e : obsY n fa fn tf ex h.get? = He.valX fn [] w) : He.SaysX fa fn [] tf ex w h (He.frT h.get? (asY h.get? n)) := by
  have e1 : He.obsT fa fn [] (He.frT h.get? (asY h.get? n)) = He.valT fn [] w := congrArg (fun z : He.AlX => z.1) e
  have e2 : (ex (He.frT h.get? (asY h.get? n)) && He.tabsB h.get? tf (He.frT h.get? (asY h.get? n))) = true := congrArg (fun z : He.AlX => z.2) e
  obtain ⟨h1, h2⟩ := Bool.and_eq_true_iff.mp e2
  have key : ∀ p ∈ tf, PySem.W.codeHdIn (He.frT h.get? (asY h.get? n)) (He.cT (He.frT h.get? (asY h.get? n)) p).1 (He.cT (He.frT h.get? (asY h.get? n)) p).2 = true ∧ ∃ o, h.get? (He.cT (He.frT h.get? (asY h.get? n)) p).2 = some o ∧ He.emptyTab o = true := fun p hp => by
    obtain ⟨h3, h4⟩ := Bool.and_eq_true_iff.mp (List.all_eq_true.mp h2 p hp)
    refine ⟨h3, ?_⟩
    cases q : h.get? (He.cT (He.frT h.get? (asY h.get? n)) p).2 with
    | none =>
      rw [q] at h4
      cases h4
    | some o =>
      rw [q] at h4
      exact ⟨o, rfl, h4⟩
  exact ⟨e1, h1, fun p hp => (key p hp).1, fun p hp => by
    obtain ⟨_, o, q, z⟩ := key p hp
    exact He.frT_none q z, fun p hp => by
    obtain ⟨_, o, q, z⟩ := key p hp
    rw [q, He.emptyTab_eq z]⟩
def hookY (n : Nat) (fa : List He.Fa) (fn : List He.DefD) (tf : List He.Defn) (ex : PySem.W.Frag → Bool) : PySem.W.Hook where
  α := He.AlX
  obs := fun s => obsY n fa fn tf ex s.heap.get?
  val := fun w => He.valX fn [] w
  says := fun w h => ∃ K : PySem.W.Frag, K.In h ∧ He.SaysX fa fn [] tf ex w h K
  of := fun _ _ e => ⟨_, He.frT_in, saysY_of e⟩
  keeps := fun _ _ _ ⟨K, hK, c⟩ k => ⟨K, PySem.W.Frag.In.keeps hK k, ⟨c.t, c.more, c.hd, c.out, fun p hp => k _ _ (c.empty p hp)⟩⟩
theorem obsY_eq {n : Nat} {fa : List He.Fa} {fn : List He.DefD} {tf : List He.Defn} {ex : PySem.W.Frag → Bool} {g : Addr → Option Obj} {s : Shared} (h : ∀ a, g a = s.heap.get? a) : obsY n fa fn tf ex g = (hookY n fa fn tf ex).obs s := by
  have e : g = s.heap.get? := funext h
  rw [e] <;> rfl
/-- THE WALK of a law, from its table and the interpreter -/
theorem law_of {l : PySem.W.OpenLaw} {n k : Nat} {q : Program} {loose : List Str} {XP : (Str → Option Value) → Heap → Prop} {d : DefRec} {x : Str} {t : Tab} {e : DE} {m : Nat}
    (pok : t.pok l.prog = true) (hn : l.most = some n) (hn2 : n ≤ sizeLine) (hdf : d.params.defaults = []) (hr : Room (3 * k) callerA) (ok : t.chk = true) (comp : ∀ p ∈ t.all, ∃ n, cB n (t.cc p.2) p.2.d.body = some p.2.body)
    (he : t.ds.lookup d.name = some e) (hps : e.ps = [x])
    (law : ∀ ns : List Int, ns.length ≤ n → (∀ z ∈ ns, Builtin.Int.intBits z ≤ 1048576) → ∃ st', call t.P k d.name [scriptD ns] [] = some (.ok (.bl true), st')) :
    PySem.W.WalkO q loose XP (hookY m t.fa t.fn t.tf t.ex).says l.row.toRowW d [] (fun f vs => PySem.call f vs) := by
  refine LamX.walk_ofTsE (k := 3 * k) (CX := fun w => L2.CX l.prog w) (x := x) hn hn2 hdf hr (fun w mg fa h Y G hmg => ?_) fun w H s e' s' z => by
    obtain ⟨_, _, _, _, _, _, _, _, _, _, _, _, z⟩ := z
    exact z
  obtain ⟨K, KX, c⟩ := Y
  letI : Gb := ⟨t.tf.map fun p => (He.cT K p).2, t.cls, (t.xs.filter (·.rs)).map (·.nm)⟩
  have S := stands KX G c ok comp pok rfl
  have hfa := S.glo d.name e he
  rw [hmg] at hfa
  cases hfa
  have he2 : t.all.lookup d.name = some e := lookup_left he
  obtain ⟨fd, F⟩ := S.fn d.name e he2
  obtain ⟨pl, scf⟩ := DE.ok_plain (S.ok he2) F
  rw [hps] at pl
  have ea : He.fAd K e.d.at_ = He.ga K d.name := by rw [S.at_ he]; rfl
  have memT : ∀ p ∈ t.tf.map (He.cT K), ∃ q ∈ t.tf, p = He.cT K q := fun p hp => by
    obtain ⟨q, hq, e⟩ := List.mem_map.mp hp
    exact ⟨q, hq, e.symm⟩
  have good : ∀ (H : Hp) (a : Addr) (ns : List Int), ns.length ≤ n → (∀ z ∈ ns, Builtin.Int.intBits z ≤ 1048576) → (∀ p ∈ t.tf.map (He.cT K), H p.2 = some (.tbl #[])) → RoL K H a (ns.map V.int) → spC K (call t.P k d.name) 1 [.ref a] H (fun v _ => v = .bl true) fun _ _ _ => False := fun H a ns hl hb hH ro => by
    obtain ⟨st', hlw⟩ := law ns hl hb
    refine ⟨rfl, [], [], [scriptD ns], ⟨rfl, List.nodup_nil, fun n o a h => by simp at h, fun Pt hP => ?_⟩, ⟨.ref a, [], rfl, ⟨a, _, rfl, ro, ints_rd ns⟩, rfl⟩, _, st', hlw, fun μ' H' x hs v r => r⟩
    obtain ⟨p, hp, e⟩ := List.mem_map.mp (show Pt ∈ t.tf.map fun p => (He.cT K p).2 from hP)
    refine ⟨#[], ?_, trivial⟩
    have z : (He.cT K p).2 = Pt := e
    rw [← z]
    exact hH _ (List.mem_map.mpr ⟨p, hp, rfl⟩)
  refine ⟨K, KX, fd, t.tf.map (He.cT K), fun vs H Q E => spC K (call t.P k d.name) 1 vs H Q E ∨ ∃ a xs, H a = some (.lst xs) ∧ ∀ o, spC K (call t.P k d.name) 1 vs (upd H a (.frz o (.lst xs))) Q E, fun p hp => ?_, fun p hp => ?_, fun p hp => ?_, fun s u => ?_, fun H a ns hl hb hH hS => ?_, fun base hb hns hTB => ?_⟩
  · obtain ⟨q, hq, rfl⟩ := memT p hp
    exact c.empty q hq
  · obtain ⟨q, hq, rfl⟩ := memT p hp
    exact c.out q hq
  · obtain ⟨q, hq, rfl⟩ := memT p hp
    exact PySem.W.codeHd_of_K KX (c.hd q hq)
  · have hc : okCall [x] 1 [] [0] = true := by simp [okCall, okPm]
    exact pl.binds (us := [u]) (ws := []) (ks := []) (pm := [0]) hc rfl s
  · rcases hS with (hS | ⟨o, hS⟩) | hS
    · refine .inr ⟨a, _, hS, fun o => good _ a ns hl hb (fun p hp => ?_) (.inl ⟨o, upd_same⟩)⟩
      have q := hH p hp
      rw [upd_ne fun z => by rw [z, hS] at q; cases q]
      exact q
    · exact .inl (good H a ns hl hb hH (.inl ⟨o, hS⟩))
    · exact .inl (good H a ns hl hb hH (.inr hS))
  · have F2 := defs_ok (P := l.prog) (w := w) (base := base) S rfl (fun p hp => List.mem_map.mpr ⟨p, hp, rfl⟩) (fun p hp => by
      obtain ⟨h1, h2, h3⟩ := hTB _ (List.mem_map.mpr ⟨p, hp, rfl⟩)
      exact ⟨h1, h2, h3⟩) k d.name e he2 fd F
    rw [hps, ea] at F2
    exact FnOk.or F2 (FnOk.frz F2)
end MP

set_option Elab.async false
set_option linter.all false
set_option maxRecDepth 100000
set_option maxHeartbeats 4000000
/-! how the interpreter is run by rewriting -/
namespace MP
open PySem (Str Operator CmpOp)

/-! ### defs -/
theorem call_at {P : Str → Option FD} {f : Str} {n np nv : Nat} {b : List S} {ds : List D} {st : Sto} (hP : P f = some ⟨np, nv, b⟩) (hl : ds.length = np) : call P (n + 1) f ds st = fin st (exs (call P n) b (ds.map some ++ List.replicate (nv - ds.length) none) st) := by
  show (match P f with
    | some fd => if ds.length = fd.np then fin st (exs (call P n) fd.body (ds.map some ++ List.replicate (fd.nv - ds.length) none) st) else none
    | none => none) = _
  rw [hP]
  exact if_pos hl
@[simp] theorem gc_same {st g : Sto} {d : D} (h : d.blw st.length = true) : gc st d (st ++ g) = st := by
  unfold gc
  rw [if_pos ⟨h, by rw [List.length_append]; omega, fun i hi => .inl (by rw [List.getElem?_append_left hi])⟩]
  exact List.take_left
@[simp] theorem gc_id {st : Sto} {d : D} (h : d.blw st.length = true) : gc st d st = st := by
  have q := gc_same (st := st) (g := []) (d := d) h
  rw [List.append_nil] at q
  exact q
/-- the same where a list ahead was changed -/
theorem gc_set {st g : Sto} {d : D} {i : Nat} {o : O} (h : d.blw st.length = true) (ho : o.blw st.length = true) : gc st d ((st.set i o) ++ g) = st.set i o := by
  unfold gc
  rw [if_pos]
  · have e := List.take_left (l₁ := st.set i o) (l₂ := g)
    rw [List.length_set] at e
    exact e
  · refine ⟨h, by rw [List.length_append, List.length_set]; omega, fun j hj => ?_⟩
    rw [List.getElem?_append_left (by rw [List.length_set]; exact hj)]
    by_cases e : i = j
    · subst e
      exact .inr ⟨o, by rw [List.getElem?_set_self hj], ho⟩
    · exact .inl (by rw [List.getElem?_set_ne e])
@[simp] theorem fin_rt (st : Sto) (d : D) (st' : Sto) : fin st (some (.ok (.rt d), st')) = some (.ok d, gc st d st') := (rfl)
@[simp] theorem fin_nx (st : Sto) (σ : Env) (st' : Sto) : fin st (some (.ok (.nx σ), st')) = some (.ok .non, gc st .non st') := (rfl)
theorem exs_step {C : CalT} {s : S} {ss : List S} {σ σ' : Env} {st st' : Sto} (h : ex C s σ st = some (.ok (.nx σ'), st')) : exs C (s :: ss) σ st = exs C ss σ' st' := by
  rw [exs, h, bnd_ok]
theorem exs_rt {C : CalT} {s : S} {ss : List S} {σ : Env} {st st' : Sto} {d : D} (h : ex C s σ st = some (.ok (.rt d), st')) : exs C (s :: ss) σ st = some (.ok (.rt d), st') := by
  rw [exs, h, bnd_ok]

/-! ### ints -/
theorem log2_small {i : Int} (h1 : -18446744073709551616 < i) (h2 : i < 18446744073709551616) : i.natAbs.log2 < 64 := by
  by_cases e : i.natAbs = 0
  · rw [e]; decide
  · rw [Nat.log2_lt e]; omega
theorem mul_small {i j : Int} {st : Sto} (h1 : -18446744073709551616 < i) (h2 : i < 18446744073709551616) (h3 : -18446744073709551616 < j) (h4 : j < 18446744073709551616) : binop .Mult (.int i) (.int j) st = ok (.int (i * j)) st := by
  have a := log2_small h1 h2
  have b := log2_small h3 h4
  show (if _ then _ else _) = _
  rw [if_pos]
  unfold BITS
  omega
theorem mul_lit {i j : Int} {k : Nat} {st : Sto} (h : i.natAbs.log2 < 100000000) (h3 : -18446744073709551616 < j) (h4 : j < 18446744073709551616) : binop .Mult (.int i) (.int j) st = ok (.int (i * j)) st := by
  have b := log2_small h3 h4
  show (if _ then _ else _) = _
  rw [if_pos]
  unfold BITS
  omega
@[simp] theorem div_pos {i j : Int} {st : Sto} (h1 : 0 < j) (h2 : j < 18446744073709551616) : binop .FloorDiv (.int i) (.int j) st = ok (.int (i / j)) st := by
  have b := log2_small (i := j) (by omega) h2
  show (if _ then _ else _) = _
  rw [if_pos ⟨by omega, by unfold DIVB; omega⟩, Int.fdiv_eq_ediv_of_nonneg _ (by omega)]
@[simp] theorem mod_pos {i j : Int} {st : Sto} (h1 : 0 < j) : binop .Mod (.int i) (.int j) st = ok (.int (i % j)) st := by
  show (if _ then _ else _) = _
  rw [if_pos (by omega), Int.fmod_eq_emod_of_nonneg _ (by omega)]
@[simp] theorem add_ii (i j : Int) (st : Sto) : binop .Add (.int i) (.int j) st = ok (.int (i + j)) st := (rfl)
@[simp] theorem sub_ii (i j : Int) (st : Sto) : binop .Sub (.int i) (.int j) st = ok (.int (i - j)) st := (rfl)
@[simp] theorem add_tt {a b : List D} {st : Sto} (h : a.length + b.length ≤ LINE) : binop .Add (.tup a) (.tup b) st = ok (.tup (a ++ b)) st := if_pos h

/-! ### comprehensions and loops -/
theorem held_nil (st : Sto) : held [] st := fun _ h => by cases h
@[simp] theorem forL_nil {tg : G} {b : Env → Sto → R Fl} {σ : Env} {st : Sto} : forL [] tg b [] σ st = ok (.nx σ) st := by
  unfold forL; exact if_pos (held_nil st)
theorem forL_cons {tg : G} {b : Env → Sto → R Fl} {σ σ1 : Env} {st : Sto} {d : D} {ds : List D} (h : asgG tg d σ = some σ1) : forL [] tg b (d :: ds) σ st = bnd (b σ1 st) fun f st' => match f with
      | .nx σ2 => forL [] tg b ds σ2 st'
      | .ct σ2 => forL [] tg b ds σ2 st'
      | .bk σ2 => ok (.nx σ2) st'
      | .rt d => ok (.rt d) st' := by
  rw [forL, if_pos (held_nil st), h] <;> rfl
/-- a loop by an invariant -/
theorem forL_inv {g : Grd} {tg : G} {b : Env → Sto → R Fl} (I : Nat → Env → Sto → Prop) {is : List D} (hg : ∀ i σ st, I i σ st → held g st)
    (step : ∀ i d σ st, is[i]? = some d → I i σ st → ∃ σ1, asgG tg d σ = some σ1 ∧ ∃ σ2 st2, (b σ1 st = ok (.nx σ2) st2 ∨ b σ1 st = ok (.ct σ2) st2) ∧ I (i + 1) σ2 st2) :
    ∀ (ds : List D) (i : Nat) (σ : Env) (st : Sto), is.drop i = ds → i ≤ is.length → I i σ st → ∃ σ' st', forL g tg b ds σ st = ok (.nx σ') st' ∧ I is.length σ' st'
  | [], i, σ, st, e, hi, h => by
    have hl : i = is.length := by
      have := congrArg List.length e
      rw [List.length_drop, List.length_nil] at this
      omega
    subst hl
    refine ⟨σ, st, ?_, h⟩
    unfold forL
    exact if_pos (hg _ _ _ h)
  | d :: ds, i, σ, st, e, hi, h => by
    have hl : i < is.length := by
      have := congrArg List.length e
      rw [List.length_drop, List.length_cons] at this
      omega
    have e2 := List.drop_eq_getElem_cons hl
    rw [e] at e2
    obtain ⟨e3, e4⟩ := List.cons.inj e2
    obtain ⟨σ1, h1, σ2, st2, h2, h3⟩ := step i d σ st (by rw [List.getElem?_eq_getElem hl, e3]) h
    obtain ⟨σ', st', h4, h5⟩ := forL_inv I hg step ds (i + 1) σ2 st2 e4.symm hl h3
    refine ⟨σ', st', ?_, h5⟩
    rw [forL, if_pos (hg _ _ _ h), h1]
    rcases h2 with h2 | h2
    · show bnd (b σ1 st) _ = _
      rw [h2, bnd_ok]; exact h4
    · show bnd (b σ1 st) _ = _
      rw [h2, bnd_ok]; exact h4
/-- a comprehension whose items are reckoned without a trace -/
theorem compL_map {g : Grd} {tg : G} {σw : Env} {f : Env → List D → Sto → R (List D)} {h : D → D} {st : Sto} (hg : held g st) : ∀ (ds acc : List D),
    (∀ d ∈ ds, ∃ σ', asgG tg d σw = some σ' ∧ ∀ acc, acc.length < LINE → f σ' acc st = ok (acc ++ [h d]) st) → acc.length + ds.length ≤ LINE → compL g tg σw f ds acc st = ok (acc ++ ds.map h) st
  | [], acc, _, _ => by
    unfold compL
    rw [if_pos hg, List.map_nil, List.append_nil]
  | d :: ds, acc, hd, hl => by
    rw [List.length_cons] at hl
    obtain ⟨σ', e1, e2⟩ := hd d List.mem_cons_self
    rw [compL, if_pos hg, e1]
    show bnd (noX (f σ' acc st)) _ = _
    rw [e2 acc (by omega), noX_ok, bnd_ok, compL_map hg ds (acc ++ [h d]) (fun x hx => hd x (List.mem_cons_of_mem _ hx)) (by rw [List.length_append, List.length_singleton]; omega)]
    rw [List.map_cons, List.append_assoc]; rfl
end MP

set_option Elab.async false
set_option linter.all false
set_option maxRecDepth 100000
set_option maxHeartbeats 4000000
/-! the interpreter by simp; postconditions -/
namespace MP
open PySem (Str Operator CmpOp)
variable {α β γ : Type}

/-- first f, then g -/
def kThen (f : α → Sto → R β) (g : β → Sto → R γ) (a : α) (s : Sto) : R γ := bnd (f a s) g
@[simp] theorem kThen_ap (f : α → Sto → R β) (g : β → Sto → R γ) (a : α) (s : Sto) : kThen f g a s = bnd (f a s) g := (rfl)
@[simp] theorem bnd_as (r : R α) (f : α → Sto → R β) (g : β → Sto → R γ) : bnd (bnd r f) g = bnd r (kThen f g) := by
  cases r with
  | none => rfl
  | some p =>
    obtain ⟨y, s⟩ := p
    cases y <;> rfl

def Run (r : R α) (Q : α → Sto → Prop) : Prop := ∃ a st, r = some (.ok a, st) ∧ Q a st
@[simp] theorem Run_ok {a : α} {st : Sto} {Q : α → Sto → Prop} : Run (some (.ok a, st)) Q ↔ Q a st :=
  ⟨fun ⟨_, _, h, q⟩ => by cases h; exact q, fun h => ⟨a, st, rfl, h⟩⟩
theorem Run_ok' {a : α} {st : Sto} {Q : α → Sto → Prop} (h : Q a st) : Run (some (.ok a, st)) Q := ⟨a, st, rfl, h⟩
theorem Run_bnd {r : R α} {f : α → Sto → R β} {P : α → Sto → Prop} {Q : β → Sto → Prop} (h : Run r P) (k : ∀ a st, P a st → Run (f a st) Q) : Run (bnd r f) Q := by
  obtain ⟨a, st, e, p⟩ := h
  rw [e, bnd_ok]
  exact k a st p
theorem Run_noX {r : R α} {Q : α → Sto → Prop} : Run (noX r) Q ↔ Run r Q := by
  constructor
  · rintro ⟨a, st, e, q⟩
    cases r with
    | none => cases e
    | some p =>
      obtain ⟨y, s⟩ := p
      cases y with
      | error er => cases e
      | ok b => cases e; exact ⟨_, _, rfl, q⟩
  · rintro ⟨a, st, rfl, q⟩
    exact ⟨a, st, rfl, q⟩
@[simp] theorem Run_bnd_noX {r : R α} {f : α → Sto → R β} {Q : β → Sto → Prop} : Run (bnd (noX r) f) Q ↔ Run (bnd r f) Q := by
  cases r with
  | none => exact Iff.rfl
  | some p =>
    obtain ⟨y, s⟩ := p
    cases y with
    | error er => exact ⟨(fun ⟨_, _, e, _⟩ => nomatch e), (fun ⟨_, _, e, _⟩ => nomatch e)⟩
    | ok b => exact Iff.rfl
theorem Run_imp {r : R α} {P Q : α → Sto → Prop} (h : Run r P) (k : ∀ a st, P a st → Q a st) : Run r Q := by
  obtain ⟨a, st, e, p⟩ := h
  exact ⟨a, st, e, k a st p⟩
theorem Run_ite {c : Prop} [Decidable c] {x y : R α} {Q : α → Sto → Prop} (h1 : c → Run x Q) (h2 : ¬c → Run y Q) : Run (if c then x else y) Q := by
  by_cases h : c
  · rw [if_pos h]; exact h1 h
  · rw [if_neg h]; exact h2 h
theorem Run_eq {r : R α} {a : α} {st : Sto} (h : Run r fun b s => b = a ∧ s = st) : r = some (.ok a, st) := by
  obtain ⟨b, s, e, rfl, rfl⟩ := h
  exact e

def cond (x : D) (a b : R α) : R α := match x with
  | .bl true => a
  | .bl false => b
  | _ => none
def notD (x : D) (st : Sto) : R D := match x with
  | .bl b => ok (.bl (!b)) st
  | _ => none
@[simp] theorem cond_bl (b : Bool) (x y : R α) : cond (.bl b) x y = if b = true then x else y := by cases b <;> rfl
def getV (o : Option (Option D)) (st : Sto) : R D := match o with
  | some (some d) => ok d st
  | _ => none
def getA (o : Option D) (st : Sto) : R D := match o with
  | some d => ok d st
  | _ => none
def getL (o : Option O) (f : List D → R α) : R α := match o with
  | some (.lst ds) => f ds
  | _ => none
def andThen (o : Option Env) (st : Sto) : R Fl := match o with
  | some σ' => ok (.nx σ') st
  | none => none
def setSt (o : Option Sto) (σ : Env) : R Fl := match o with
  | some st' => ok (.nx σ) st'
  | none => none
def onIt (o : Option (List D × Grd)) (f : List D → Grd → R α) : R α := match o with
  | some (is, g) => f is g
  | none => none
def chn (z : D) (st : Sto) (k : R D) : R D := match z with
  | .bl true => k
  | .bl false => ok (.bl false) st
  | _ => none
@[simp] theorem chn_bl (b : Bool) (st : Sto) (k : R D) : chn (.bl b) st k = if b = true then k else ok (.bl false) st := by cases b <;> rfl

noncomputable def kBin (C : CalT) (op : Operator) (b : T) (σ : Env) (x : D) (st : Sto) : R D := bnd (ev C b σ st) (binop op x)
@[simp] theorem kBin_ap (C : CalT) (op : Operator) (b : T) (σ : Env) (x : D) (st : Sto) : kBin C op b σ x st = bnd (ev C b σ st) (binop op x) := (rfl)
noncomputable def kCmp (C : CalT) (op : CmpOp) (b : T) (σ : Env) (x : D) (st : Sto) : R D := bnd (ev C b σ st) (cmpop op x)
@[simp] theorem kCmp_ap (C : CalT) (op : CmpOp) (b : T) (σ : Env) (x : D) (st : Sto) : kCmp C op b σ x st = bnd (ev C b σ st) (cmpop op x) := (rfl)
noncomputable def kCh4 (q : CmpOp) (y : D) (w : D) (st : Sto) : R D := cmpop q y w st
@[simp] theorem kCh4_ap (q : CmpOp) (y : D) (w : D) (st : Sto) : kCh4 q y w st = cmpop q y w st := (rfl)
noncomputable def kCh3 (C : CalT) (q : CmpOp) (c : T) (y : D) (σ : Env) (z : D) (st : Sto) : R D := chn z st (bnd (ev C c σ st) (kCh4 q y))
@[simp] theorem kCh3_ap (C : CalT) (q : CmpOp) (c : T) (y : D) (σ : Env) (z : D) (st : Sto) : kCh3 C q c y σ z st = chn z st (bnd (ev C c σ st) (kCh4 q y)) := (rfl)
noncomputable def kCh2 (C : CalT) (p : CmpOp) (q : CmpOp) (c : T) (x : D) (σ : Env) (y : D) (st : Sto) : R D := bnd (cmpop p x y st) (kCh3 C q c y σ)
@[simp] theorem kCh2_ap (C : CalT) (p : CmpOp) (q : CmpOp) (c : T) (x : D) (σ : Env) (y : D) (st : Sto) : kCh2 C p q c x σ y st = bnd (cmpop p x y st) (kCh3 C q c y σ) := (rfl)
noncomputable def kCh1 (C : CalT) (p : CmpOp) (q : CmpOp) (b : T) (c : T) (σ : Env) (x : D) (st : Sto) : R D := bnd (ev C b σ st) (kCh2 C p q c x σ)
@[simp] theorem kCh1_ap (C : CalT) (p : CmpOp) (q : CmpOp) (b : T) (c : T) (σ : Env) (x : D) (st : Sto) : kCh1 C p q b c σ x st = bnd (ev C b σ st) (kCh2 C p q c x σ) := (rfl)
noncomputable def kAnd (C : CalT) (b : T) (σ : Env) (x : D) (st : Sto) : R D := cond x (ev C b σ st) (ok (.bl false) st)
@[simp] theorem kAnd_ap (C : CalT) (b : T) (σ : Env) (x : D) (st : Sto) : kAnd C b σ x st = cond x (ev C b σ st) (ok (.bl false) st) := (rfl)
noncomputable def kOr (C : CalT) (b : T) (σ : Env) (x : D) (st : Sto) : R D := cond x (ok (.bl true) st) (ev C b σ st)
@[simp] theorem kOr_ap (C : CalT) (b : T) (σ : Env) (x : D) (st : Sto) : kOr C b σ x st = cond x (ok (.bl true) st) (ev C b σ st) := (rfl)
noncomputable def kIfe (C : CalT) (a : T) (b : T) (σ : Env) (x : D) (st : Sto) : R D := cond x (ev C a σ st) (ev C b σ st)
@[simp] theorem kIfe_ap (C : CalT) (a : T) (b : T) (σ : Env) (x : D) (st : Sto) : kIfe C a b σ x st = cond x (ev C a σ st) (ev C b σ st) := (rfl)
noncomputable def kTup  (ds : List D) (st : Sto) : R D := ok (.tup ds) st
@[simp] theorem kTup_ap  (ds : List D) (st : Sto) : kTup  ds st = ok (.tup ds) st := (rfl)
noncomputable def kLst  (ds : List D) (st : Sto) : R D := alloc (.lst ds) st
@[simp] theorem kLst_ap  (ds : List D) (st : Sto) : kLst  ds st = alloc (.lst ds) st := (rfl)
noncomputable def kIx (C : CalT) (b : T) (σ : Env) (x : D) (st : Sto) : R D := bnd (ev C b σ st) (ixop x)
@[simp] theorem kIx_ap (C : CalT) (b : T) (σ : Env) (x : D) (st : Sto) : kIx C b σ x st = bnd (ev C b σ st) (ixop x) := (rfl)
noncomputable def kSlA2 (x : D) (y : D) (st : Sto) : R D := slop x (some y) none st
@[simp] theorem kSlA2_ap (x : D) (y : D) (st : Sto) : kSlA2 x y st = slop x (some y) none st := (rfl)
noncomputable def kSlA (C : CalT) (lo : T) (σ : Env) (x : D) (st : Sto) : R D := bnd (ev C lo σ st) (kSlA2 x)
@[simp] theorem kSlA_ap (C : CalT) (lo : T) (σ : Env) (x : D) (st : Sto) : kSlA C lo σ x st = bnd (ev C lo σ st) (kSlA2 x) := (rfl)
noncomputable def kSlB2 (x : D) (y : D) (st : Sto) : R D := slop x none (some y) st
@[simp] theorem kSlB2_ap (x : D) (y : D) (st : Sto) : kSlB2 x y st = slop x none (some y) st := (rfl)
noncomputable def kSlB (C : CalT) (hi : T) (σ : Env) (x : D) (st : Sto) : R D := bnd (ev C hi σ st) (kSlB2 x)
@[simp] theorem kSlB_ap (C : CalT) (hi : T) (σ : Env) (x : D) (st : Sto) : kSlB C hi σ x st = bnd (ev C hi σ st) (kSlB2 x) := (rfl)
noncomputable def kSlC3 (x : D) (y : D) (z : D) (st : Sto) : R D := slop x (some y) (some z) st
@[simp] theorem kSlC3_ap (x : D) (y : D) (z : D) (st : Sto) : kSlC3 x y z st = slop x (some y) (some z) st := (rfl)
noncomputable def kSlC2 (C : CalT) (hi : T) (x : D) (σ : Env) (y : D) (st : Sto) : R D := bnd (noX (ev C hi σ st)) (kSlC3 x y)
@[simp] theorem kSlC2_ap (C : CalT) (hi : T) (x : D) (σ : Env) (y : D) (st : Sto) : kSlC2 C hi x σ y st = bnd (noX (ev C hi σ st)) (kSlC3 x y) := (rfl)
noncomputable def kSlC (C : CalT) (lo : T) (hi : T) (σ : Env) (x : D) (st : Sto) : R D := bnd (ev C lo σ st) (kSlC2 C hi x σ)
@[simp] theorem kSlC_ap (C : CalT) (lo : T) (hi : T) (σ : Env) (x : D) (st : Sto) : kSlC C lo hi σ x st = bnd (ev C lo σ st) (kSlC2 C hi x σ) := (rfl)
noncomputable def kCall (C : CalT) (f : Str) (pm : List Nat) (ds : List D) (st : Sto) : R D := C f (permD pm ds) st
@[simp] theorem kCall_ap (C : CalT) (f : Str) (pm : List Nat) (ds : List D) (st : Sto) : kCall C f pm ds st = C f (permD pm ds) st := (rfl)
noncomputable def kMt (C : CalT) (m : Mt) (es : List T) (σ : Env) (x : D) (st : Sto) : R D := if mtRecv m x st = true then bnd (evs C es σ st) (mtop m x) else none
@[simp] theorem kMt_ap (C : CalT) (m : Mt) (es : List T) (σ : Env) (x : D) (st : Sto) : kMt C m es σ x st = if mtRecv m x st = true then bnd (evs C es σ st) (mtop m x) else none := (rfl)
noncomputable def kTurn2 (acc : List D) (d : D) (st : Sto) : R (List D) := if acc.length < LINE then ok (acc ++ [d]) st else none
@[simp] theorem kTurn2_ap (acc : List D) (d : D) (st : Sto) : kTurn2 acc d st = if acc.length < LINE then ok (acc ++ [d]) st else none := (rfl)
noncomputable def kTurn (C : CalT) (elt : T) (σ : Env) (acc : List D) (b : Bool) (st : Sto) : R (List D) := if b = true then bnd (ev C elt σ st) (kTurn2 acc) else ok acc st
@[simp] theorem kTurn_ap (C : CalT) (elt : T) (σ : Env) (acc : List D) (b : Bool) (st : Sto) : kTurn C elt σ acc b st = if b = true then bnd (ev C elt σ st) (kTurn2 acc) else ok acc st := (rfl)
/-- a comprehension's turn -/
noncomputable def turn (C : CalT) (elt : T) (cs : List T) (σ : Env) (acc : List D) (st : Sto) : R (List D) := bnd (evc C cs σ st) (kTurn C elt σ acc)
noncomputable def kComp3  (acc : List D) (st : Sto) : R D := alloc (.lst acc) st
@[simp] theorem kComp3_ap  (acc : List D) (st : Sto) : kComp3  acc st = alloc (.lst acc) st := (rfl)
noncomputable def kIn2 (C : CalT) (elt : T) (cs1 : List T) (tg1 : G) (own1 : List Nat) (σ : Env) (acc : List D) (st : Sto) (is1 : List D) (g1 : Grd) : R (List D) := compL g1 tg1 (wipe σ own1) (turn C elt cs1) is1 acc st
@[simp] theorem kIn2_ap (C : CalT) (elt : T) (cs1 : List T) (tg1 : G) (own1 : List Nat) (σ : Env) (acc : List D) (st : Sto) (is1 : List D) (g1 : Grd) : kIn2 C elt cs1 tg1 own1 σ acc st is1 g1 = compL g1 tg1 (wipe σ own1) (turn C elt cs1) is1 acc st := (rfl)
noncomputable def kIn (C : CalT) (elt : T) (tg1 : G) (k1 : IK) (cs1 : List T) (own1 : List Nat) (σ : Env) (acc : List D) (ds1 : List D) (st : Sto) : R (List D) := onIt (items k1 ds1 st) (kIn2 C elt cs1 tg1 own1 σ acc st)
@[simp] theorem kIn_ap (C : CalT) (elt : T) (tg1 : G) (k1 : IK) (cs1 : List T) (own1 : List Nat) (σ : Env) (acc : List D) (ds1 : List D) (st : Sto) : kIn C elt tg1 k1 cs1 own1 σ acc ds1 st = onIt (items k1 ds1 st) (kIn2 C elt cs1 tg1 own1 σ acc st) := (rfl)
noncomputable def kTurnB (C : CalT) (elt : T) (tg1 : G) (k1 : IK) (es1 : List T) (cs1 : List T) (own1 : List Nat) (σ : Env) (acc : List D) (b : Bool) (st : Sto) : R (List D) := if b = true then bnd (evs C es1 σ st) (kIn C elt tg1 k1 cs1 own1 σ acc) else ok acc st
@[simp] theorem kTurnB_ap (C : CalT) (elt : T) (tg1 : G) (k1 : IK) (es1 : List T) (cs1 : List T) (own1 : List Nat) (σ : Env) (acc : List D) (b : Bool) (st : Sto) : kTurnB C elt tg1 k1 es1 cs1 own1 σ acc b st = if b = true then bnd (evs C es1 σ st) (kIn C elt tg1 k1 cs1 own1 σ acc) else ok acc st := (rfl)
noncomputable def turn2 (C : CalT) (elt : T) (cs : List T) (tg1 : G) (k1 : IK) (es1 cs1 : List T) (own1 : List Nat) (σ : Env) (acc : List D) (st : Sto) : R (List D) := bnd (evc C cs σ st) (kTurnB C elt tg1 k1 es1 cs1 own1 σ acc)
noncomputable def kComp2 (C : CalT) (elt : T) (tg : G) (cs : List T) (own : List Nat) (σ : Env) (st : Sto) (is : List D) (g : Grd) : R D := bnd (compL g tg (wipe σ own) (turn C elt cs) is [] st) kComp3
@[simp] theorem kComp2_ap (C : CalT) (elt : T) (tg : G) (cs : List T) (own : List Nat) (σ : Env) (st : Sto) (is : List D) (g : Grd) : kComp2 C elt tg cs own σ st is g = bnd (compL g tg (wipe σ own) (turn C elt cs) is [] st) kComp3 := (rfl)
noncomputable def kComp (C : CalT) (elt : T) (tg : G) (k : IK) (cs : List T) (own : List Nat) (σ : Env) (ds : List D) (st : Sto) : R D := onIt (items k ds st) (kComp2 C elt tg cs own σ st)
@[simp] theorem kComp_ap (C : CalT) (elt : T) (tg : G) (k : IK) (cs : List T) (own : List Nat) (σ : Env) (ds : List D) (st : Sto) : kComp C elt tg k cs own σ ds st = onIt (items k ds st) (kComp2 C elt tg cs own σ st) := (rfl)
noncomputable def kCompD2 (C : CalT) (elt : T) (tg : G) (cs : List T) (tg1 : G) (k1 : IK) (es1 : List T) (cs1 : List T) (own : List Nat) (own1 : List Nat) (σ : Env) (st : Sto) (is : List D) (g : Grd) : R D := bnd (compL g tg (wipe σ own) (turn2 C elt cs tg1 k1 es1 cs1 own1) is [] st) kComp3
@[simp] theorem kCompD2_ap (C : CalT) (elt : T) (tg : G) (cs : List T) (tg1 : G) (k1 : IK) (es1 : List T) (cs1 : List T) (own : List Nat) (own1 : List Nat) (σ : Env) (st : Sto) (is : List D) (g : Grd) : kCompD2 C elt tg cs tg1 k1 es1 cs1 own own1 σ st is g = bnd (compL g tg (wipe σ own) (turn2 C elt cs tg1 k1 es1 cs1 own1) is [] st) kComp3 := (rfl)
noncomputable def kCompD (C : CalT) (elt : T) (tg : G) (k : IK) (cs : List T) (tg1 : G) (k1 : IK) (es1 : List T) (cs1 : List T) (own : List Nat) (own1 : List Nat) (σ : Env) (ds : List D) (st : Sto) : R D := onIt (items k ds st) (kCompD2 C elt tg cs tg1 k1 es1 cs1 own own1 σ st)
@[simp] theorem kCompD_ap (C : CalT) (elt : T) (tg : G) (k : IK) (cs : List T) (tg1 : G) (k1 : IK) (es1 : List T) (cs1 : List T) (own : List Nat) (own1 : List Nat) (σ : Env) (ds : List D) (st : Sto) : kCompD C elt tg k cs tg1 k1 es1 cs1 own own1 σ ds st = onIt (items k ds st) (kCompD2 C elt tg cs tg1 k1 es1 cs1 own own1 σ st) := (rfl)
noncomputable def kCons (d : D) (ds : List D) (st : Sto) : R (List D) := ok (d :: ds) st
@[simp] theorem kCons_ap (d : D) (ds : List D) (st : Sto) : kCons d ds st = ok (d :: ds) st := (rfl)
noncomputable def kEvs (C : CalT) (es : List T) (σ : Env) (d : D) (st : Sto) : R (List D) := bnd (evs C es σ st) (kCons d)
@[simp] theorem kEvs_ap (C : CalT) (es : List T) (σ : Env) (d : D) (st : Sto) : kEvs C es σ d st = bnd (evs C es σ st) (kCons d) := (rfl)
noncomputable def kEvc (C : CalT) (es : List T) (σ : Env) (d : D) (st : Sto) : R Bool := cond d (evc C es σ st) (ok false st)
@[simp] theorem kEvc_ap (C : CalT) (es : List T) (σ : Env) (d : D) (st : Sto) : kEvc C es σ d st = cond d (evc C es σ st) (ok false st) := (rfl)
noncomputable def kExpr (σ : Env) (d : D) (st : Sto) : R Fl := ok (.nx σ) st
@[simp] theorem kExpr_ap (σ : Env) (d : D) (st : Sto) : kExpr σ d st = ok (.nx σ) st := (rfl)
noncomputable def kRet  (d : D) (st : Sto) : R Fl := ok (.rt d) st
@[simp] theorem kRet_ap  (d : D) (st : Sto) : kRet  d st = ok (.rt d) st := (rfl)
noncomputable def kAsg (g : G) (σ : Env) (d : D) (st : Sto) : R Fl := andThen (asgG g d σ) st
@[simp] theorem kAsg_ap (g : G) (σ : Env) (d : D) (st : Sto) : kAsg g σ d st = andThen (asgG g d σ) st := (rfl)
noncomputable def kAug3 (i : Nat) (σ : Env) (z : D) (st : Sto) : R Fl := ok (.nx (σ.set i (some z))) st
@[simp] theorem kAug3_ap (i : Nat) (σ : Env) (z : D) (st : Sto) : kAug3 i σ z st = ok (.nx (σ.set i (some z))) st := (rfl)
noncomputable def kAug2 (i : Nat) (op : Operator) (x : D) (σ : Env) (y : D) (st : Sto) : R Fl := bnd (augop op x y st) (kAug3 i σ)
@[simp] theorem kAug2_ap (i : Nat) (op : Operator) (x : D) (σ : Env) (y : D) (st : Sto) : kAug2 i op x σ y st = bnd (augop op x y st) (kAug3 i σ) := (rfl)
noncomputable def kAug (C : CalT) (i : Nat) (op : Operator) (t : T) (σ : Env) (x : D) (st : Sto) : R Fl := bnd (ev C t σ st) (kAug2 i op x σ)
@[simp] theorem kAug_ap (C : CalT) (i : Nat) (op : Operator) (t : T) (σ : Env) (x : D) (st : Sto) : kAug C i op t σ x st = bnd (ev C t σ st) (kAug2 i op x σ) := (rfl)
noncomputable def kPar (is : List Nat) (σ : Env) (ds : List D) (st : Sto) : R Fl := andThen (setAll is ds σ) st
@[simp] theorem kPar_ap (is : List Nat) (σ : Env) (ds : List D) (st : Sto) : kPar is σ ds st = andThen (setAll is ds σ) st := (rfl)
noncomputable def kSet3 (x : D) (d : D) (σ : Env) (k : D) (st : Sto) : R Fl := setSt (setIxop x k d st) σ
@[simp] theorem kSet3_ap (x : D) (d : D) (σ : Env) (k : D) (st : Sto) : kSet3 x d σ k st = setSt (setIxop x k d st) σ := (rfl)
noncomputable def kSet2 (C : CalT) (i : T) (d : D) (σ : Env) (x : D) (st : Sto) : R Fl := bnd (ev C i σ st) (kSet3 x d σ)
@[simp] theorem kSet2_ap (C : CalT) (i : T) (d : D) (σ : Env) (x : D) (st : Sto) : kSet2 C i d σ x st = bnd (ev C i σ st) (kSet3 x d σ) := (rfl)
noncomputable def kSet (C : CalT) (o : T) (i : T) (σ : Env) (d : D) (st : Sto) : R Fl := bnd (ev C o σ st) (kSet2 C i d σ)
@[simp] theorem kSet_ap (C : CalT) (o : T) (i : T) (σ : Env) (d : D) (st : Sto) : kSet C o i σ d st = bnd (ev C o σ st) (kSet2 C i d σ) := (rfl)
noncomputable def kIf (C : CalT) (a : List S) (b : List S) (σ : Env) (x : D) (st : Sto) : R Fl := cond x (exs C a σ st) (exs C b σ st)
@[simp] theorem kIf_ap (C : CalT) (a : List S) (b : List S) (σ : Env) (x : D) (st : Sto) : kIf C a b σ x st = cond x (exs C a σ st) (exs C b σ st) := (rfl)
noncomputable def kFor2 (C : CalT) (tg : G) (b : List S) (σ : Env) (st : Sto) (is : List D) (g : Grd) : R Fl := forL g tg (exs C b) is σ st
@[simp] theorem kFor2_ap (C : CalT) (tg : G) (b : List S) (σ : Env) (st : Sto) (is : List D) (g : Grd) : kFor2 C tg b σ st is g = forL g tg (exs C b) is σ st := (rfl)
noncomputable def kFor (C : CalT) (tg : G) (k : IK) (b : List S) (σ : Env) (ds : List D) (st : Sto) : R Fl := onIt (items k ds st) (kFor2 C tg b σ st)
@[simp] theorem kFor_ap (C : CalT) (tg : G) (k : IK) (b : List S) (σ : Env) (ds : List D) (st : Sto) : kFor C tg k b σ ds st = onIt (items k ds st) (kFor2 C tg b σ st) := (rfl)
def seqF (f : Fl) (st : Sto) (k : Env → Sto → R Fl) : R Fl := match f with
  | .nx σ' => k σ' st
  | f => ok f st
noncomputable def kSeq (C : CalT) (ss : List S) (f : Fl) (st : Sto) : R Fl := seqF f st (exs C ss)
@[simp] theorem kSeq_ap (C : CalT) (ss : List S) (f : Fl) (st : Sto) : kSeq C ss f st = seqF f st (exs C ss) := (rfl)
/-- an instance's fields -/
def getI (o : Option O) (f : Str → List (Str × D) → R α) : R α := match o with
  | some (.ins c fs) => f c fs
  | _ => none
@[simp] theorem getI_ins (c : Str) (fs : List (Str × D)) (f : Str → List (Str × D) → R α) : getI (some (.ins c fs)) f = f c fs := (rfl)
@[simp] theorem insOp_loc (n : Nat) (st : Sto) (f : Nat → Str → List (Str × D) → R α) : insOp (.loc n) st f = getI st[n]? (f n) := by
  show (match st[n]? with | some (.ins c fs) => f n c fs | _ => none) = _
  rcases st[n]? with _ | _ | ⟨c, fs⟩ | _ <;> rfl
def kFld (f : Str) (st : Sto) (c : Str) (fs : List (Str × D)) : R D := getA (fs.lookup f) st
@[simp] theorem kFld_ap (f : Str) (st : Sto) (c : Str) (fs : List (Str × D)) : kFld f st c fs = getA (fs.lookup f) st := (rfl)
@[simp] theorem fldop_loc (f : Str) (n : Nat) (st : Sto) : fldop f (.loc n) st = getI st[n]? (kFld f st) := by
  unfold fldop
  rw [insOp_loc]
  congr 1
  funext c fs
  show (match fs.lookup f with | some d => ok d st | none => none) = getA (fs.lookup f) st
  cases fs.lookup f <;> rfl
noncomputable def kMeth2 (C : CalT) (c m : Str) (x : D) (ds : List D) (st : Sto) : R D := C (mkey c m) (x :: ds) st
@[simp] theorem kMeth2_ap (C : CalT) (c m : Str) (x : D) (ds : List D) (st : Sto) : kMeth2 C c m x ds st = C (mkey c m) (x :: ds) st := (rfl)
noncomputable def kMeth1 (C : CalT) (m : Str) (es : List T) (σ : Env) (x : D) (st : Sto) (_ : Nat) (c : Str) (fs : List (Str × D)) : R D := if fs.lookup m = none then bnd (noX (evs C es σ st)) (kMeth2 C c m x) else none
@[simp] theorem kMeth1_ap (C : CalT) (m : Str) (es : List T) (σ : Env) (x : D) (st : Sto) (n : Nat) (c : Str) (fs : List (Str × D)) : kMeth1 C m es σ x st n c fs = if fs.lookup m = none then bnd (noX (evs C es σ st)) (kMeth2 C c m x) else none := (rfl)
noncomputable def kMeth (C : CalT) (m : Str) (es : List T) (σ : Env) (x : D) (st : Sto) : R D := insOp x st (kMeth1 C m es σ x st)
@[simp] theorem kMeth_ap (C : CalT) (m : Str) (es : List T) (σ : Env) (x : D) (st : Sto) : kMeth C m es σ x st = insOp x st (kMeth1 C m es σ x st) := (rfl)
noncomputable def kMake2 (n : Nat) (d : D) (st : Sto) : R D := if isNon d = true then ok (.loc n) st else none
@[simp] theorem kMake2_ap (n : Nat) (d : D) (st : Sto) : kMake2 n d st = if isNon d = true then ok (.loc n) st else none := (rfl)
noncomputable def kMake (C : CalT) (c : Str) (ds : List D) (st : Sto) : R D := bnd (C (mkey c "__init__") (.loc st.length :: ds) (st ++ [.ins c []])) (kMake2 st.length)
@[simp] theorem kMake_ap (C : CalT) (c : Str) (ds : List D) (st : Sto) : kMake C c ds st = bnd (C (mkey c "__init__") (.loc st.length :: ds) (st ++ [.ins c []])) (kMake2 st.length) := (rfl)
def onL (o : Option (List D)) (f : List D → R α) : R α := match o with
  | some vs => f vs
  | none => none
@[simp] theorem onL_some (vs : List D) (f : List D → R α) : onL (some vs) f = f vs := (rfl)
def kLrg2 (st : Sto) (is : List D) (_ : Grd) : R D := if is.length ≤ LINE then alloc (.lst is) st else none
@[simp] theorem kLrg2_ap (st : Sto) (is : List D) (g : Grd) : kLrg2 st is g = if is.length ≤ LINE then alloc (.lst is) st else none := (rfl)
def kLrg (k : IK) (ds : List D) (st : Sto) : R D := onIt (items k ds st) (kLrg2 st)
@[simp] theorem kLrg_ap (k : IK) (ds : List D) (st : Sto) : kLrg k ds st = onIt (items k ds st) (kLrg2 st) := (rfl)
noncomputable def kAgg3 (p : Ag) (st : Sto) (vs : List D) : R D := agop p vs st
@[simp] theorem kAgg3_ap (p : Ag) (st : Sto) (vs : List D) : kAgg3 p st vs = agop p vs st := (rfl)
noncomputable def kAgg2 (C : CalT) (p : Ag) (elt : T) (tg : G) (own : List Nat) (σ : Env) (st : Sto) (is : List D) (_ : Grd) : R D := onL (genL tg (wipe σ own) (ev C elt) st is) (kAgg3 p st)
@[simp] theorem kAgg2_ap (C : CalT) (p : Ag) (elt : T) (tg : G) (own : List Nat) (σ : Env) (st : Sto) (is : List D) (g : Grd) : kAgg2 C p elt tg own σ st is g = onL (genL tg (wipe σ own) (ev C elt) st is) (kAgg3 p st) := (rfl)
noncomputable def kAgg (C : CalT) (p : Ag) (elt : T) (tg : G) (k : IK) (own : List Nat) (σ : Env) (ds : List D) (st : Sto) : R D := onIt (items k ds st) (kAgg2 C p elt tg own σ st)
@[simp] theorem kAgg_ap (C : CalT) (p : Ag) (elt : T) (tg : G) (k : IK) (own : List Nat) (σ : Env) (ds : List D) (st : Sto) : kAgg C p elt tg k own σ ds st = onIt (items k ds st) (kAgg2 C p elt tg own σ st) := (rfl)
noncomputable def kAIx4 (x k : D) (σ : Env) (z : D) (st : Sto) : R Fl := setSt (setIxop x k z st) σ
@[simp] theorem kAIx4_ap (x k : D) (σ : Env) (z : D) (st : Sto) : kAIx4 x k σ z st = setSt (setIxop x k z st) σ := (rfl)
noncomputable def kAIx3 (op : Operator) (x k y : D) (σ : Env) (d : D) (st : Sto) : R Fl := bnd (augop op y d st) (kAIx4 x k σ)
@[simp] theorem kAIx3_ap (op : Operator) (x k y : D) (σ : Env) (d : D) (st : Sto) : kAIx3 op x k y σ d st = bnd (augop op y d st) (kAIx4 x k σ) := (rfl)
noncomputable def kAIx2 (C : CalT) (op : Operator) (t : T) (x k : D) (σ : Env) (y : D) (st : Sto) : R Fl := bnd (ev C t σ st) (kAIx3 op x k y σ)
@[simp] theorem kAIx2_ap (C : CalT) (op : Operator) (t : T) (x k : D) (σ : Env) (y : D) (st : Sto) : kAIx2 C op t x k σ y st = bnd (ev C t σ st) (kAIx3 op x k y σ) := (rfl)
noncomputable def kAIx1 (C : CalT) (op : Operator) (t : T) (x : D) (σ : Env) (k : D) (st : Sto) : R Fl := if isLst x st = true then bnd (ixop x k st) (kAIx2 C op t x k σ) else none
@[simp] theorem kAIx1_ap (C : CalT) (op : Operator) (t : T) (x : D) (σ : Env) (k : D) (st : Sto) : kAIx1 C op t x σ k st = if isLst x st = true then bnd (ixop x k st) (kAIx2 C op t x k σ) else none := (rfl)
noncomputable def kAIx (C : CalT) (op : Operator) (i t : T) (σ : Env) (x : D) (st : Sto) : R Fl := bnd (ev C i σ st) (kAIx1 C op t x σ)
@[simp] theorem kAIx_ap (C : CalT) (op : Operator) (i t : T) (σ : Env) (x : D) (st : Sto) : kAIx C op i t σ x st = bnd (ev C i σ st) (kAIx1 C op t x σ) := (rfl)
noncomputable def kSF2 (f : Str) (d : D) (σ : Env) (x : D) (st : Sto) : R Fl := setSt (setFldop (fun _ => true) f x d st) σ
@[simp] theorem kSF2_ap (f : Str) (d : D) (σ : Env) (x : D) (st : Sto) : kSF2 f d σ x st = setSt (setFldop (fun _ => true) f x d st) σ := (rfl)
noncomputable def kSF (C : CalT) (o : T) (f : Str) (σ : Env) (d : D) (st : Sto) : R Fl := bnd (ev C o σ st) (kSF2 f d σ)
@[simp] theorem kSF_ap (C : CalT) (o : T) (f : Str) (σ : Env) (d : D) (st : Sto) : kSF C o f σ d st = bnd (ev C o σ st) (kSF2 f d σ) := (rfl)
noncomputable def kAF4 (f c : Str) (x : D) (σ : Env) (z : D) (st : Sto) : R Fl := setSt (setFldop (fun c' => decide (c' = c)) f x z st) σ
@[simp] theorem kAF4_ap (f c : Str) (x : D) (σ : Env) (z : D) (st : Sto) : kAF4 f c x σ z st = setSt (setFldop (fun c' => decide (c' = c)) f x z st) σ := (rfl)
noncomputable def kAF3 (op : Operator) (f c : Str) (x y : D) (σ : Env) (d : D) (st : Sto) : R Fl := bnd (augop op y d st) (kAF4 f c x σ)
@[simp] theorem kAF3_ap (op : Operator) (f c : Str) (x y : D) (σ : Env) (d : D) (st : Sto) : kAF3 op f c x y σ d st = bnd (augop op y d st) (kAF4 f c x σ) := (rfl)
noncomputable def kAF2 (C : CalT) (op : Operator) (f c : Str) (t : T) (x : D) (σ : Env) (st : Sto) (y : D) : R Fl := bnd (ev C t σ st) (kAF3 op f c x y σ)
@[simp] theorem kAF2_ap (C : CalT) (op : Operator) (f c : Str) (t : T) (x : D) (σ : Env) (st : Sto) (y : D) : kAF2 C op f c t x σ st y = bnd (ev C t σ st) (kAF3 op f c x y σ) := (rfl)
def onD (o : Option D) (f : D → R α) : R α := match o with
  | some d => f d
  | none => none
@[simp] theorem onD_some (d : D) (f : D → R α) : onD (some d) f = f d := (rfl)
noncomputable def kAF1 (C : CalT) (op : Operator) (f : Str) (t : T) (x : D) (σ : Env) (st : Sto) (_ : Nat) (c : Str) (fs : List (Str × D)) : R Fl := onD (fs.lookup f) (kAF2 C op f c t x σ st)
@[simp] theorem kAF1_ap (C : CalT) (op : Operator) (f : Str) (t : T) (x : D) (σ : Env) (st : Sto) (n : Nat) (c : Str) (fs : List (Str × D)) : kAF1 C op f t x σ st n c fs = onD (fs.lookup f) (kAF2 C op f c t x σ st) := (rfl)
noncomputable def kAF (C : CalT) (op : Operator) (f : Str) (t : T) (σ : Env) (x : D) (st : Sto) : R Fl := insOp x st (kAF1 C op f t x σ st)
@[simp] theorem kAF_ap (C : CalT) (op : Operator) (f : Str) (t : T) (σ : Env) (x : D) (st : Sto) : kAF C op f t σ x st = insOp x st (kAF1 C op f t x σ st) := (rfl)
section ev
variable (C : CalT) (σ : Env) (st : Sto)
@[simp] theorem qev_lit (d : D) : ev C (.lit d) σ st = ok d st := by rw [ev]
@[simp] theorem qev_fld (a : T) (f : Str) : ev C (.fld a f) σ st = bnd (ev C a σ st) (fldop f) := by rw [ev]
@[simp] theorem qev_meth (o : T) (m : Str) (es : List T) : ev C (.meth o m es) σ st = bnd (ev C o σ st) (kMeth C m es σ) := by rw [ev] <;> rfl
@[simp] theorem qev_make (c : Str) (es : List T) : ev C (.make c es) σ st = bnd (evs C es σ st) (kMake C c) := by rw [ev] <;> rfl
@[simp] theorem qev_lrg (k : IK) (es : List T) : ev C (.lrg k es) σ st = bnd (evs C es σ st) (kLrg k) := by
  rw [ev]
  congr 1
@[simp] theorem qev_agg (p : Ag) (elt : T) (tg : G) (k : IK) (es : List T) (own : List Nat) : ev C (.agg p elt tg k es own) σ st = bnd (evs C es σ st) (kAgg C p elt tg k own σ) := by
  rw [ev]
  congr 1
@[simp] theorem qex_augIx (o i : T) (op : Operator) (t : T) : ex C (.augIx o i op t) σ st = bnd (ev C o σ st) (kAIx C op i t σ) := by rw [ex] <;> rfl
@[simp] theorem qex_setFld (o : T) (f : Str) (t : T) : ex C (.setFld o f t) σ st = bnd (ev C t σ st) (kSF C o f σ) := by rw [ex] <;> rfl
@[simp] theorem qex_augFld (o : T) (f : Str) (op : Operator) (t : T) : ex C (.augFld o f op t) σ st = bnd (ev C o σ st) (kAF C op f t σ) := by
  rw [ex]
  congr 1
@[simp] theorem qev_v (i : Nat) : ev C (.v i) σ st = getV σ[i]? st := by rw [ev] <;> rfl
@[simp] theorem qev_int (i : Int) : ev C (.int i) σ st = ok (.int i) st := by rw [ev]
@[simp] theorem qev_bl (b : Bool) : ev C (.bl b) σ st = ok (.bl b) st := by rw [ev]
@[simp] theorem qev_non  : ev C .non σ st = ok .non st := by rw [ev]
@[simp] theorem qev_str (s : Str) : ev C (.str s) σ st = ok (.str s) st := by rw [ev]
@[simp] theorem qev_bin (op : Operator) (a : T) (b : T) : ev C (.bin op a b) σ st = bnd (ev C a σ st) (kBin C op b σ) := by rw [ev] <;> rfl
@[simp] theorem qev_neg (a : T) : ev C (.neg a) σ st = bnd (ev C a σ st) neg := by rw [ev]
@[simp] theorem qev_cmp (op : CmpOp) (a : T) (b : T) : ev C (.cmp op a b) σ st = bnd (ev C a σ st) (kCmp C op b σ) := by rw [ev] <;> rfl
@[simp] theorem qev_chain (p : CmpOp) (q : CmpOp) (a : T) (b : T) (c : T) : ev C (.chain p q a b c) σ st = bnd (ev C a σ st) (kCh1 C p q b c σ) := by rw [ev] <;> rfl
@[simp] theorem qev_and (a : T) (b : T) : ev C (.and a b) σ st = bnd (ev C a σ st) (kAnd C b σ) := by rw [ev] <;> rfl
@[simp] theorem qev_or (a : T) (b : T) : ev C (.or a b) σ st = bnd (ev C a σ st) (kOr C b σ) := by rw [ev] <;> rfl
@[simp] theorem qev_not (a : T) : ev C (.not a) σ st = bnd (ev C a σ st) notD := by rw [ev] <;> rfl
@[simp] theorem qev_tru (a : T) : ev C (.tru a) σ st = bnd (ev C a σ st) tru := by rw [ev]
@[simp] theorem qev_ife (c : T) (a : T) (b : T) : ev C (.ife c a b) σ st = bnd (ev C c σ st) (kIfe C a b σ) := by rw [ev] <;> rfl
@[simp] theorem qev_tup (es : List T) : ev C (.tup es) σ st = bnd (evs C es σ st) kTup := by rw [ev] <;> rfl
@[simp] theorem qev_lst (es : List T) : ev C (.lst es) σ st = bnd (evs C es σ st) kLst := by rw [ev] <;> rfl
@[simp] theorem qev_ix (a : T) (b : T) : ev C (.ix a b) σ st = bnd (ev C a σ st) (kIx C b σ) := by rw [ev] <;> rfl
@[simp] theorem qev_slA (a : T) (lo : T) : ev C (.slA a lo) σ st = bnd (ev C a σ st) (kSlA C lo σ) := by rw [ev] <;> rfl
@[simp] theorem qev_dnew : ev C .dnew σ st = alloc (.dic []) st := by rw [ev]
@[simp] theorem qev_slB (a : T) (hi : T) : ev C (.slB a hi) σ st = bnd (ev C a σ st) (kSlB C hi σ) := by rw [ev] <;> rfl
@[simp] theorem qev_slC (a : T) (lo : T) (hi : T) : ev C (.slC a lo hi) σ st = bnd (ev C a σ st) (kSlC C lo hi σ) := by rw [ev] <;> rfl
@[simp] theorem qev_call (f : Str) (es : List T) (pm : List Nat) : ev C (.call f es pm) σ st = bnd (evs C es σ st) (kCall C f pm) := by rw [ev] <;> rfl
@[simp] theorem qev_bi (p : Bi) (es : List T) : ev C (.bi p es) σ st = bnd (evs C es σ st) (biop p) := by rw [ev]
@[simp] theorem qev_mt (m : Mt) (o : T) (es : List T) : ev C (.mt m o es) σ st = bnd (ev C o σ st) (kMt C m es σ) := by rw [ev] <;> rfl
@[simp] theorem qev_isi (a : T) (t : Ty) : ev C (.isi a t) σ st = bnd (ev C a σ st) (isop t) := by rw [ev]
@[simp] theorem qev_comp (elt : T) (tg : G) (k : IK) (es : List T) (cs : List T) (own : List Nat) : ev C (.comp elt tg k es cs own) σ st = bnd (evs C es σ st) (kComp C elt tg k cs own σ) := by rw [ev] <;> rfl
@[simp] theorem qev_comp2 (elt : T) (tg : G) (k : IK) (es : List T) (cs : List T) (tg1 : G) (k1 : IK) (es1 : List T) (cs1 : List T) (own : List Nat) (own1 : List Nat) : ev C (.comp2 elt tg k es cs tg1 k1 es1 cs1 own own1) σ st = bnd (evs C es σ st) (kCompD C elt tg k cs tg1 k1 es1 cs1 own own1 σ) := by rw [ev] <;> rfl
@[simp] theorem qevs_nil  : evs C [] σ st = ok [] st := by rw [evs]
@[simp] theorem qevs_cons (e : T) (es : List T) : evs C (e :: es) σ st = bnd (ev C e σ st) (kEvs C es σ) := by rw [evs] <;> rfl
@[simp] theorem qevc_nil  : evc C [] σ st = ok true st := by rw [evc]
@[simp] theorem qevc_cons (e : T) (es : List T) : evc C (e :: es) σ st = bnd (ev C e σ st) (kEvc C es σ) := by rw [evc] <;> rfl
@[simp] theorem qex_expr (t : T) : ex C (.expr t) σ st = bnd (ev C t σ st) (kExpr σ) := by rw [ex] <;> rfl
@[simp] theorem qex_ret (t : T) : ex C (.ret t) σ st = bnd (ev C t σ st) kRet := by rw [ex] <;> rfl
@[simp] theorem qex_retN  : ex C .retN σ st = ok (.rt .non) st := by rw [ex]
@[simp] theorem qex_pass  : ex C .pass σ st = ok (.nx σ) st := by rw [ex]
@[simp] theorem qex_brk  : ex C .brk σ st = ok (.bk σ) st := by rw [ex]
@[simp] theorem qex_cnt  : ex C .cnt σ st = ok (.ct σ) st := by rw [ex]
@[simp] theorem qex_asg (g : G) (t : T) : ex C (.asg g t) σ st = bnd (ev C t σ st) (kAsg g σ) := by rw [ex] <;> rfl
@[simp] theorem qex_aug (i : Nat) (op : Operator) (t : T) : ex C (.aug i op t) σ st = bnd (getV σ[i]? st) (kAug C i op t σ) := by
  rw [ex]
  rcases σ[i]? with _ | _ | d <;> rfl
@[simp] theorem qex_par (is : List Nat) (ts : List T) : ex C (.par is ts) σ st = bnd (evs C ts σ st) (kPar is σ) := by rw [ex] <;> rfl
@[simp] theorem qex_setIx (o : T) (i : T) (t : T) : ex C (.setIx o i t) σ st = bnd (ev C t σ st) (kSet C o i σ) := by rw [ex] <;> rfl
@[simp] theorem qex_ife (c : T) (a : List S) (b : List S) : ex C (.ife c a b) σ st = bnd (ev C c σ st) (kIf C a b σ) := by rw [ex] <;> rfl
@[simp] theorem qex_whl (c : T) (b : List S) : ex C (.whl c b) σ st = whl (ev C c) (exs C b) σ st := by rw [ex]
@[simp] theorem qex_for (tg : G) (k : IK) (es : List T) (b : List S) : ex C (.for_ tg k es b) σ st = bnd (evs C es σ st) (kFor C tg k b σ) := by rw [ex] <;> rfl
@[simp] theorem qexs_nil  : exs C [] σ st = ok (.nx σ) st := by rw [exs]
@[simp] theorem qexs_cons (s : S) (ss : List S) : exs C (s :: ss) σ st = bnd (ex C s σ st) (kSeq C ss) := by
  rw [exs] <;> congr
end ev
@[simp] theorem seqF_nx (σ : Env) (st : Sto) (k : Env → Sto → R Fl) : seqF (.nx σ) st k = k σ st := (rfl)
@[simp] theorem seqF_rt (d : D) (st : Sto) (k : Env → Sto → R Fl) : seqF (.rt d) st k = ok (.rt d) st := (rfl)
@[simp] theorem seqF_bk (σ : Env) (st : Sto) (k : Env → Sto → R Fl) : seqF (.bk σ) st k = ok (.bk σ) st := (rfl)
@[simp] theorem seqF_ct (σ : Env) (st : Sto) (k : Env → Sto → R Fl) : seqF (.ct σ) st k = ok (.ct σ) st := (rfl)
@[simp] theorem getV_some (d : D) (st : Sto) : getV (some (some d)) st = ok d st := (rfl)
@[simp] theorem getA_some (d : D) (st : Sto) : getA (some d) st = ok d st := (rfl)
def getP (o : Option D) (f : D → R α) : R α := match o with
  | some d => f d
  | none => none
@[simp] theorem getP_some (d : D) (f : D → R α) : getP (some d) f = f d := (rfl)
@[simp] theorem getL_lst (ds : List D) (f : List D → R α) : getL (some (.lst ds)) f = f ds := (rfl)
@[simp] theorem andThen_some (σ : Env) (st : Sto) : andThen (some σ) st = ok (.nx σ) st := (rfl)
@[simp] theorem setSt_some (σ : Env) (st : Sto) : setSt (some st) σ = ok (.nx σ) st := (rfl)
@[simp] theorem onIt_some (is : List D) (g : Grd) (f : List D → Grd → R α) : onIt (some (is, g)) f = f is g := (rfl)
@[simp] theorem notD_bl (b : Bool) (st : Sto) : notD (.bl b) st = ok (.bl (!b)) st := (rfl)

/-! ### operators -/
@[simp] theorem ixop_tup (ds : List D) (i : Int) (st : Sto) : ixop (.tup ds) (.int i) st = getA (atI ds i) st := by
  show (match atI ds i with | some d => ok d st | none => none) = _
  cases atI ds i <;> rfl
def kAt (i : Int) (st : Sto) (ds : List D) : R D := getA (atI ds i) st
@[simp] theorem kAt_ap (i : Int) (st : Sto) (ds : List D) : kAt i st ds = getA (atI ds i) st := (rfl)
/-- a list, or a dict -/
def getLD (o : Option O) (f : List D → R α) (g : List (Sum Int Str × D) → R α) : R α := match o with
  | some (.lst ds) => f ds
  | some (.dic kvs) => g kvs
  | _ => none
@[simp] theorem getLD_lst (ds : List D) (f : List D → R α) (g : List (Sum Int Str × D) → R α) : getLD (some (.lst ds)) f g = f ds := (rfl)
@[simp] theorem getLD_dic (kvs : List (Sum Int Str × D)) (f : List D → R α) (g : List (Sum Int Str × D) → R α) : getLD (some (.dic kvs)) f g = g kvs := (rfl)
def kGetK (k : Sum Int Str) (st : Sto) (kvs : List (Sum Int Str × D)) : R D := getA (dvl kvs k) st
@[simp] theorem kGetK_ap (k : Sum Int Str) (st : Sto) (kvs : List (Sum Int Str × D)) : kGetK k st kvs = getA (dvl kvs k) st := (rfl)
theorem getK_A (kvs : List (Sum Int Str × D)) (k : Sum Int Str) (st : Sto) : getK kvs k st = getA (dvl kvs k) st := by
  unfold getK
  cases dvl kvs k <;> rfl
@[simp] theorem ixop_loc (n : Nat) (i : Int) (st : Sto) : ixop (.loc n) (.int i) st = getLD st[n]? (kAt i st) (kGetK (.inl i) st) := by
  show (match st[n]? with | some (.lst ds) => (match atI ds i with | some d => ok d st | none => none) | some (.dic kvs) => getK kvs (.inl i) st | _ => none) = _
  rcases st[n]? with _ | ⟨ds⟩ | _ | kvs
  · rfl
  · show (match atI ds i with | some d => ok d st | none => none) = getA _ _
    cases atI ds i <;> rfl
  · rfl
  · exact getK_A kvs _ st
@[simp] theorem ixop_locS (n : Nat) (s : Str) (st : Sto) : ixop (.loc n) (.str s) st = getLD st[n]? (fun _ => none) (kGetK (.inr s) st) := by
  show (match st[n]? with | some (.dic kvs) => getK kvs (.inr s) st | _ => none) = _
  rcases st[n]? with _ | ⟨ds⟩ | _ | kvs
  · rfl
  · rfl
  · rfl
  · exact getK_A kvs _ st
@[simp] theorem ixop_rol (ds : List D) (i : Int) (st : Sto) : ixop (.rol ds) (.int i) st = getA (atI ds i) st := by
  show (match atI ds i with | some d => ok d st | none => none) = _
  cases atI ds i <;> rfl
theorem atI_nn {α : Type} {xs : List α} {i : Int} (h : 0 ≤ i) : atI xs i = xs[i.toNat]? := by
  unfold atI ixN
  rw [if_pos h]
  by_cases q : i < xs.length
  · rw [if_pos q]; rfl
  · rw [if_neg q]
    exact (List.getElem?_eq_none (by omega)).symm
@[simp] theorem atI_lit {α : Type} {xs : List α} {n : Nat} : atI xs (no_index (OfNat.ofNat n : Int)) = xs[(OfNat.ofNat n : Nat)]? := atI_nn (Int.natCast_nonneg n)
@[simp] theorem atI_neg1 {α : Type} {xs : List α} : atI xs (-1) = xs[xs.length - 1]? := by
  unfold atI ixN
  rw [if_neg (by omega)]
  by_cases q : -(xs.length : Int) ≤ -1
  · rw [if_pos q]
    show xs[(-1 + (xs.length : Int)).toNat]? = _
    congr 1; omega
  · rw [if_neg q]
    exact (List.getElem?_eq_none (by omega)).symm
@[simp] theorem biLen_tup (ds : List D) (st : Sto) : biop .len [.tup ds] st = ok (.int ds.length) st := (rfl)
@[simp] theorem biLen_rol (ds : List D) (st : Sto) : biop .len [.rol ds] st = ok (.int ds.length) st := (rfl)
@[simp] theorem biLen_loc (n : Nat) (st : Sto) : biop .len [.loc n] st = getLD st[n]? (fun ds => ok (.int ds.length) st) (fun kvs => ok (.int kvs.length) st) := (rfl)
@[simp] theorem biLen_str {s : Str} (st : Sto) : biop .len [.str s] st = if s.length ≤ LINE then ok (.int s.length) st else none := (rfl)
@[simp] theorem biStr_int (i : Int) (st : Sto) : biop .str [.int i] st = if i.natAbs.log2 < 1920 then ok (.str (PySem.Str.ofString (toString i))) st else none := (rfl)
@[simp] theorem biAbs_int (i : Int) (st : Sto) : biop .abs [.int i] st = ok (.int (if i < 0 then -i else i)) st := (rfl)
@[simp] theorem biInt_int (i : Int) (st : Sto) : biop .int [.int i] st = ok (.int i) st := (rfl)
@[simp] theorem biInt_bl (b : Bool) (st : Sto) : biop .int [.bl b] st = ok (.int (if b = true then 1 else 0)) st := (rfl)
@[simp] theorem biTuple_tup (ds : List D) (st : Sto) : biop .tuple [.tup ds] st = ok (.tup ds) st := (rfl)
@[simp] theorem biTuple_rol (ds : List D) (st : Sto) : biop .tuple [.rol ds] st = ok (.tup ds) st := (rfl)
@[simp] theorem biTuple_loc (n : Nat) (st : Sto) : biop .tuple [.loc n] st = getL st[n]? fun ds => ok (.tup ds) st := (rfl)
@[simp] theorem biList_tup (ds : List D) (st : Sto) : biop .list [.tup ds] st = ok (.loc st.length) (st ++ [.lst ds]) := (rfl)
@[simp] theorem biList_rol (ds : List D) (st : Sto) : biop .list [.rol ds] st = ok (.loc st.length) (st ++ [.lst ds]) := (rfl)
@[simp] theorem biList_loc (n : Nat) (st : Sto) : biop .list [.loc n] st = getL st[n]? fun ds => ok (.loc st.length) (st ++ [.lst ds]) := (rfl)
@[simp] theorem biMin_int (i j : Int) (st : Sto) : biop .min [.int i, .int j] st = ok (.int (if j < i then j else i)) st := (rfl)
@[simp] theorem biMax_int (i j : Int) (st : Sto) : biop .max [.int i, .int j] st = ok (.int (if j > i then j else i)) st := (rfl)
@[simp] theorem biGcd_int (i j : Int) (st : Sto) : biop .gcd [.int i, .int j] st = ok (.int (Int.gcd i j)) st := (rfl)
@[simp] theorem alloc_eq (o : O) (st : Sto) : alloc o st = ok (.loc st.length) (st ++ [o]) := (rfl)
@[simp] theorem neg_int (i : Int) (st : Sto) : neg (.int i) st = ok (.int (-i)) st := (rfl)
@[simp] theorem tru_bl (b : Bool) (st : Sto) : tru (.bl b) st = ok (.bl b) st := (rfl)
@[simp] theorem tru_int (i : Int) (st : Sto) : tru (.int i) st = ok (.bl (i != 0)) st := (rfl)
@[simp] theorem tru_tup (ds : List D) (st : Sto) : tru (.tup ds) st = ok (.bl (!ds.isEmpty)) st := (rfl)
@[simp] theorem tru_loc (n : Nat) (st : Sto) : tru (.loc n) st = getL st[n]? fun ds => ok (.bl (!ds.isEmpty)) st := (rfl)
@[simp] theorem recv_popAt (x : D) (st : Sto) : mtRecv .popAt x st = isLst x st := (rfl)
@[simp] theorem recv_extend (x : D) (st : Sto) : mtRecv .extend x st = isLst x st := (rfl)
@[simp] theorem recv_append (x : D) (st : Sto) : mtRecv .append x st = isLst x st := (rfl)
@[simp] theorem recv_pop (x : D) (st : Sto) : mtRecv .pop x st = isLst x st := (rfl)
@[simp] theorem recv_reverse (x : D) (st : Sto) : mtRecv .reverse x st = isLst x st := (rfl)
@[simp] theorem recv_startswith (x : Str) (st : Sto) : mtRecv .startswith (.str x) st = true := (rfl)
@[simp] theorem recv_endswith (x : Str) (st : Sto) : mtRecv .endswith (.str x) st = true := (rfl)
@[simp] theorem recv_lstrip (x : Str) (st : Sto) : mtRecv .lstrip (.str x) st = true := (rfl)
@[simp] theorem recv_index (x : Str) (st : Sto) : mtRecv .index (.str x) st = true := (rfl)
@[simp] theorem recv_find (x : Str) (st : Sto) : mtRecv .find (.str x) st = true := (rfl)
@[simp] theorem recv_isdigit (x : Str) (st : Sto) : mtRecv .isdigit (.str x) st = true := (rfl)
@[simp] theorem startswith_str (a b : Str) (st : Sto) : mtop .startswith (.str a) [.str b] st = ok (.bl (PySem.Txt.startswith a b)) st := (rfl)
@[simp] theorem endswith_str (a b : Str) (st : Sto) : mtop .endswith (.str a) [.str b] st = ok (.bl (PySem.Txt.endswith a b)) st := (rfl)
@[simp] theorem lstrip_str (a b : Str) (st : Sto) : mtop .lstrip (.str a) [.str b] st = if a.length ≤ LINE then ok (.str (PySem.Txt.lstripChars a b)) st else none := (rfl)
@[simp] theorem find_str (a b : Str) (st : Sto) : mtop .find (.str a) [.str b] st = ok (.int (PySem.Txt.find a b)) st := (rfl)
@[simp] theorem isdigit_str (a : Str) (st : Sto) : mtop .isdigit (.str a) [] st = ok (.bl (PySem.Txt.isdigit a)) st := (rfl)
@[simp] theorem recv_split (x : Str) (st : Sto) : mtRecv .split (.str x) st = true := (rfl)
@[simp] theorem recv_join (x : Str) (st : Sto) : mtRecv .join (.str x) st = true := (rfl)
@[simp] theorem split_str (a b : Str) (st : Sto) : mtop .split (.str a) [.str b] st = if (b.length == 0) = false ∧ a.length + 2 ≤ LINE then alloc (.lst ((PySem.Txt.split a b).map D.str)) st else none := (rfl)
@[simp] theorem join_tup (a : Str) (ds : List D) (st : Sto) : mtop .join (.str a) [.tup ds] st = joinL a ds st := (rfl)
@[simp] theorem join_loc (a : Str) (n : Nat) (st : Sto) : mtop .join (.str a) [.loc n] st = getL st[n]? fun ds => joinL a ds st := (rfl)
@[simp] theorem in_tt (i j : Str) (st : Sto) : cmpop .In (.str i) (.str j) st = ok (.bl (hasT i j)) st := (rfl)
@[simp] theorem notin_tt (i j : Str) (st : Sto) : cmpop .NotIn (.str i) (.str j) st = ok (.bl (!hasT i j)) st := (rfl)
@[simp] theorem append_loc (n : Nat) (x : D) (st : Sto) : mtop .append (.loc n) [x] st = getL st[n]? fun ds => if ds.length < LINE then ok .non (st.set n (.lst (ds ++ [x]))) else none := (rfl)
def kPop (n : Nat) (st : Sto) (ds : List D) (d : D) : R D := ok d (st.set n (.lst ds.dropLast))
@[simp] theorem kPop_ap (n : Nat) (st : Sto) (ds : List D) (d : D) : kPop n st ds d = ok d (st.set n (.lst ds.dropLast)) := (rfl)
@[simp] theorem pop_loc (n : Nat) (st : Sto) : mtop .pop (.loc n) [] st = getL st[n]? fun ds => getP ds[ds.length - 1]? (kPop n st ds) := by
  show ((match st[n]? with | some (.lst ds) => (match ds[ds.length - 1]? with | some d => ok d (st.set n (.lst ds.dropLast)) | none => none) | _ => none) : R D) = _
  rcases st[n]? with _ | ⟨ds⟩ | _ | _
  · rfl
  · show ((match ds[ds.length - 1]? with | some d => ok d (st.set n (.lst ds.dropLast)) | none => none) : R D) = getP ds[ds.length - 1]? _
    cases ds[ds.length - 1]? <;> rfl
  · rfl
  · rfl
@[simp] theorem reverse_loc (n : Nat) (st : Sto) : mtop .reverse (.loc n) [] st = getL st[n]? fun ds => ok .non (st.set n (.lst ds.reverse)) := (rfl)
@[simp] theorem aug_add (i j : Int) (st : Sto) : augop .Add (.int i) (.int j) st = ok (.int (i + j)) st := (rfl)
@[simp] theorem aug_sub (i j : Int) (st : Sto) : augop .Sub (.int i) (.int j) st = ok (.int (i - j)) st := (rfl)
theorem isLst_loc (n : Nat) (st : Sto) : isLst (.loc n) st = (match st[n]? with | some (.lst _) => true | _ => false) := rfl
theorem isop_eq {t : Ty} {d : D} {st : Sto} {b : Bool} (h : isTy t d st = some b) : isop t d st = ok (.bl b) st := by unfold isop; rw [h]
@[simp] theorem isop_int (i : Int) (st : Sto) : isop .int (.int i) st = ok (.bl true) st := (rfl)
@[simp] theorem isop_bool_int (i : Int) (st : Sto) : isop .bool (.int i) st = ok (.bl false) st := (rfl)
@[simp] theorem isop_str_int (i : Int) (st : Sto) : isop .str (.int i) st = ok (.bl false) st := (rfl)
@[simp] theorem isop_tuple_int (i : Int) (st : Sto) : isop .tuple (.int i) st = ok (.bl false) st := (rfl)
@[simp] theorem isop_tuple_tup (ds : List D) (st : Sto) : isop .tuple (.tup ds) st = ok (.bl true) st := (rfl)
@[simp] theorem lt_ii (i j : Int) (st : Sto) : cmpop .Lt (.int i) (.int j) st = ok (.bl (decide (i < j))) st := (rfl)
@[simp] theorem le_ii (i j : Int) (st : Sto) : cmpop .LtE (.int i) (.int j) st = ok (.bl (decide (i ≤ j))) st := (rfl)
@[simp] theorem gt_ii (i j : Int) (st : Sto) : cmpop .Gt (.int i) (.int j) st = ok (.bl (decide (j < i))) st := (rfl)
@[simp] theorem ge_ii (i j : Int) (st : Sto) : cmpop .GtE (.int i) (.int j) st = ok (.bl (decide (j ≤ i))) st := (rfl)
@[simp] theorem eq_ii (i j : Int) (st : Sto) : cmpop .Eq (.int i) (.int j) st = ok (.bl (decide (i = j))) st := (rfl)
@[simp] theorem ne_ii (i j : Int) (st : Sto) : cmpop .NotEq (.int i) (.int j) st = ok (.bl (!decide (i = j))) st := (rfl)
@[simp] theorem eq_bb (i j : Bool) (st : Sto) : cmpop .Eq (.bl i) (.bl j) st = ok (.bl (decide (i = j))) st := (rfl)
@[simp] theorem eq_ss (i j : Str) (st : Sto) : cmpop .Eq (.str i) (.str j) st = ok (.bl (decide (i = j))) st := (rfl)
@[simp] theorem ne_ss (i j : Str) (st : Sto) : cmpop .NotEq (.str i) (.str j) st = ok (.bl (!decide (i = j))) st := (rfl)
@[simp] theorem is_non (x : D) (st : Sto) : cmpop .Is x .non st = ok (.bl (isNon x)) st := by cases x <;> rfl
@[simp] theorem isnot_non (x : D) (st : Sto) : cmpop .IsNot x .non st = ok (.bl (!isNon x)) st := by cases x <;> rfl
@[simp] theorem pow_lit {i : Int} {j : Int} {st : Sto} (h : 0 ≤ j ∧ j ≤ 1000000 ∧ i.natAbs < 2 ^ 64) : binop .Pow (.int i) (.int j) st = ok (.int (i ^ j.toNat)) st := if_pos h
theorem setIx_loc {n : Nat} {i : Int} {d : D} {st : Sto} {ds : List D} {j : Nat} (h : st[n]? = some (.lst ds)) (hj : ixN ds.length i = some j) : setIxop (.loc n) (.int i) d st = some (st.set n (.lst (ds.set j d))) := by
  show (match st[n]? with | some (.lst ds) => (match ixN ds.length i with | some j => some (st.set n (.lst (ds.set j d))) | none => none) | some (.dic kvs) => setK n kvs (.inl i) d st | _ => none) = _
  rw [h]
  show (match ixN ds.length i with | some j => some (st.set n (.lst (ds.set j d))) | none => none) = _
  rw [hj]
def getO {β : Type} (o : Option O) (f : List D → Option β) : Option β := match o with
  | some (.lst ds) => f ds
  | _ => none
@[simp] theorem getO_lst {β : Type} (ds : List D) (f : List D → Option β) : getO (some (.lst ds)) f = f ds := (rfl)
/-- a list, or a dict -/
def getOD {β : Type} (o : Option O) (f : List D → Option β) (g : List (Sum Int Str × D) → Option β) : Option β := match o with
  | some (.lst ds) => f ds
  | some (.dic kvs) => g kvs
  | _ => none
@[simp] theorem getOD_lst {β : Type} (ds : List D) (f : List D → Option β) (g : List (Sum Int Str × D) → Option β) : getOD (some (.lst ds)) f g = f ds := (rfl)
@[simp] theorem getOD_dic {β : Type} (kvs : List (Sum Int Str × D)) (f : List D → Option β) (g : List (Sum Int Str × D) → Option β) : getOD (some (.dic kvs)) f g = g kvs := (rfl)
theorem setIx_nn {n : Nat} {i : Int} {d : D} {st : Sto} (h : 0 ≤ i) : setIxop (.loc n) (.int i) d st = getOD st[n]? (fun ds => if i.toNat < ds.length then some (st.set n (.lst (ds.set i.toNat d))) else none) (fun kvs => setK n kvs (.inl i) d st) := by
  show (match st[n]? with | some (.lst ds) => (match ixN ds.length i with | some j => some (st.set n (.lst (ds.set j d))) | none => none) | some (.dic kvs) => setK n kvs (.inl i) d st | _ => none) = _
  rcases st[n]? with _ | ⟨ds⟩ | _ | _
  · rfl
  · show (match ixN ds.length i with | some j => some (st.set n (.lst (ds.set j d))) | none => none) = if i.toNat < ds.length then some (st.set n (.lst (ds.set i.toNat d))) else none
    unfold ixN
    rw [if_pos h]
    by_cases q : i < ds.length
    · rw [if_pos q, if_pos (by omega)]
    · rw [if_neg q, if_neg (by omega)]
  · rfl
  · rfl
@[simp] theorem setIx_lit {n : Nat} {k : Nat} {d : D} {st : Sto} : setIxop (.loc n) (.int (no_index (OfNat.ofNat k : Int))) d st = getOD st[n]? (fun ds => if (OfNat.ofNat k : Nat) < ds.length then some (st.set n (.lst (ds.set (OfNat.ofNat k : Nat) d))) else none) (fun kvs => setK n kvs (.inl (OfNat.ofNat k : Int)) d st) := setIx_nn (Int.natCast_nonneg k)
@[simp] theorem setIx_str {n : Nat} {s : Str} {d : D} {st : Sto} : setIxop (.loc n) (.str s) d st = getOD st[n]? (fun _ => none) (fun kvs => setK n kvs (.inr s) d st) := by
  show (match st[n]? with | some (.dic kvs) => setK n kvs (.inr s) d st | _ => none) = _
  rcases st[n]? with _ | ⟨ds⟩ | _ | kvs <;> rfl
@[simp] theorem asgG_v (i : Nat) (d : D) (σ : Env) : asgG (.v i) d σ = some (σ.set i (some d)) := by rw [asgG]
theorem items_seq {d : D} (st : Sto) (h : isStrD d = false) : items .seq [d] st = seqI d st := by
  cases d <;> first | rfl | cases h
@[simp] theorem items_seq_tup (ds : List D) (st : Sto) : items .seq [.tup ds] st = seqI (.tup ds) st := (rfl)
@[simp] theorem items_seq_rol (ds : List D) (st : Sto) : items .seq [.rol ds] st = seqI (.rol ds) st := (rfl)
@[simp] theorem items_seq_loc (n : Nat) (st : Sto) : items .seq [.loc n] st = seqI (.loc n) st := (rfl)
@[simp] theorem items_seq_str (s : Str) (st : Sto) : items .seq [.str s] st = some (chars s, []) := (rfl)
@[simp] theorem items_rng1 {j : Int} {st : Sto} (h : -4611686018427387904 ≤ j ∧ j < 4611686018427387904) : items .rng1 [.int j] st = some (rangeL 0 j.toNat, []) := if_pos h
@[simp] theorem items_rngN {k : Nat} {st : Sto} (h : k < 4611686018427387904) : items .rng1 [.int (k : Int)] st = some (rangeL 0 k, []) := items_rng1 (by omega)
@[simp] theorem items_rng2 {i j : Int} {st : Sto} (h : (-4611686018427387904 ≤ i ∧ i < 4611686018427387904) ∧ (-4611686018427387904 ≤ j ∧ j < 4611686018427387904)) : items .rng2 [.int i, .int j] st = some (rangeL i (j - i).toNat, []) := if_pos h

@[simp] theorem blw_int (n : Nat) (i : Int) : D.blw n (.int i) = true := by simp [D.blw]
@[simp] theorem blw_bl (n : Nat) (i : Bool) : D.blw n (.bl i) = true := by simp [D.blw]
@[simp] theorem blw_str (n : Nat) (i : Str) : D.blw n (.str i) = true := by simp [D.blw]
@[simp] theorem blw_non (n : Nat) : D.blw n .non = true := by simp [D.blw]
@[simp] theorem blw_loc (n m : Nat) : D.blw n (.loc m) = decide (m < n) := by simp [D.blw]
@[simp] theorem blw_tup (n : Nat) (ds : List D) : D.blw n (.tup ds) = belows n ds := by simp [D.blw]
@[simp] theorem belows_nil (n : Nat) : belows n [] = true := by simp [belows]
@[simp] theorem belows_cons (n : Nat) (d : D) (ds : List D) : belows n (d :: ds) = (d.blw n && belows n ds) := by simp [belows]
@[simp] theorem oblw_lst (n : Nat) (ds : List D) : O.blw n (.lst ds) = belows n ds := by simp [O.blw]
theorem belows_all {n : Nat} {ds : List D} (h : ∀ d ∈ ds, d.blw n = true) : belows n ds = true := by
  induction ds with
  | nil => simp
  | cons d ds ih => simp [h d List.mem_cons_self, ih fun x hx => h x (List.mem_cons_of_mem _ hx)]
@[simp] theorem belows_ints (n : Nat) (is : List Int) : belows n (is.map .int) = true := belows_all fun d hd => by
  obtain ⟨i, _, rfl⟩ := List.mem_map.1 hd
  simp

@[simp] theorem permD_nil (ds : List D) : permD [] ds = ds := (rfl)
@[simp] theorem permD_cons (i : Nat) (pm : List Nat) (ds : List D) : permD (i :: pm) ds = (i :: pm).map fun i => ds.getD i .non := (rfl)
@[simp] theorem gc_len {st st' : Sto} {d : D} (h : st'.length = st.length) : gc st d st' = st' := by
  unfold gc
  split
  · exact List.take_of_length_le (by omega)
  · rfl

@[simp] theorem gc_loc {st st' : Sto} {n : Nat} (h : st.length ≤ n) : gc st (.loc n) st' = st' := by
  unfold gc
  rw [if_neg]
  rintro ⟨q, _⟩
  simp at q
  omega
@[simp] theorem setFld_loc (p : Str → Bool) (f : Str) (n : Nat) (d : D) (st : Sto) : setFldop p f (.loc n) d st = (match st[n]? with
    | some (.ins c fs) => if p c = true ∧ fs.length < 100 then some (st.set n (.ins c (putD f d fs))) else none
    | _ => none) := (rfl)
@[simp] theorem oblw_ins (n : Nat) (c : Str) (fs : List (Str × D)) : O.blw n (.ins c fs) = belows n (fs.map (·.2)) := by simp [O.blw]
@[simp] theorem putD_nil (f : Str) (v : D) : putD f v [] = [(f, v)] := (rfl)
@[simp] theorem putD_cons (f g : Str) (v x : D) (r : List (Str × D)) : putD f v ((g, x) :: r) = if g = f then (g, v) :: r else (g, x) :: putD f v r := (rfl)
@[simp] theorem isNon_non : isNon .non = true := (rfl)
@[simp] theorem seqI_rol (ds : List D) (st : Sto) : seqI (.rol ds) st = some (ds, []) := (rfl)
@[simp] theorem seqI_tup (ds : List D) (st : Sto) : seqI (.tup ds) st = some (ds, []) := (rfl)
@[simp] theorem seqI_loc (n : Nat) (st : Sto) : seqI (.loc n) st = getO st[n]? fun ds => some (ds, [(n, .lst ds)]) := (rfl)

def kCat2 (st : Sto) (xs ys : List D) : R D := if xs.length + ys.length ≤ LINE then ok (.loc st.length) (st ++ [.lst (xs ++ ys)]) else none
@[simp] theorem kCat2_ap (st : Sto) (xs ys : List D) : kCat2 st xs ys = if xs.length + ys.length ≤ LINE then ok (.loc st.length) (st ++ [.lst (xs ++ ys)]) else none := (rfl)
def kCat (b : Nat) (st : Sto) (xs : List D) : R D := getL st[b]? (kCat2 st xs)
@[simp] theorem kCat_ap (b : Nat) (st : Sto) (xs : List D) : kCat b st xs = getL st[b]? (kCat2 st xs) := (rfl)
@[simp] theorem add_ll (a b : Nat) (st : Sto) : binop .Add (.loc a) (.loc b) st = getL st[a]? (kCat b st) := by
  show ((match st[a]?, st[b]? with
    | some (.lst xs), some (.lst ys) => if xs.length + ys.length ≤ LINE then ok (.loc st.length) (st ++ [.lst (xs ++ ys)]) else none
    | _, _ => none) : R D) = _
  rcases st[a]? with _ | ⟨ds⟩ | _ | _ <;> simp <;> first | rfl | (rcases st[b]? with _ | ⟨es⟩ | _ | _ <;> rfl)
def kEq2 (neg : Bool) (st : Sto) (xs ys : List D) : R D := if shps 60 xs = true ∧ shps 60 ys = true then ok (.bl (if neg = true then !eqDs xs ys else eqDs xs ys)) st else none
@[simp] theorem kEq2_ap (neg : Bool) (st : Sto) (xs ys : List D) : kEq2 neg st xs ys = if shps 60 xs = true ∧ shps 60 ys = true then ok (.bl (if neg = true then !eqDs xs ys else eqDs xs ys)) st else none := (rfl)
def kEq (neg : Bool) (b : Nat) (st : Sto) (xs : List D) : R D := getL st[b]? (kEq2 neg st xs)
@[simp] theorem kEq_ap (neg : Bool) (b : Nat) (st : Sto) (xs : List D) : kEq neg b st xs = getL st[b]? (kEq2 neg st xs) := (rfl)
@[simp] theorem eq_ll (a b : Nat) (st : Sto) : cmpop .Eq (.loc a) (.loc b) st = getL st[a]? (kEq false b st) := by
  show ((match st[a]?, st[b]? with
    | some (.lst xs), some (.lst ys) => if shps 60 xs = true ∧ shps 60 ys = true then ok (.bl (eqDs xs ys)) st else none
    | _, _ => none) : R D) = _
  rcases st[a]? with _ | ⟨ds⟩ | _ | _ <;> simp <;> first | rfl | (rcases st[b]? with _ | ⟨es⟩ | _ | _ <;> rfl)
@[simp] theorem ne_ll (a b : Nat) (st : Sto) : cmpop .NotEq (.loc a) (.loc b) st = getL st[a]? (kEq true b st) := by
  show ((match st[a]?, st[b]? with
    | some (.lst xs), some (.lst ys) => if shps 60 xs = true ∧ shps 60 ys = true then ok (.bl (!eqDs xs ys)) st else none
    | _, _ => none) : R D) = _
  rcases st[a]? with _ | ⟨ds⟩ | _ | _ <;> simp <;> first | rfl | (rcases st[b]? with _ | ⟨es⟩ | _ | _ <;> rfl)
@[simp] theorem eq_tt {a b : List D} {st : Sto} (h1 : shps 60 a = true) (h2 : shps 60 b = true) : cmpop .Eq (.tup a) (.tup b) st = ok (.bl (eqDs a b)) st := if_pos ⟨h1, h2⟩
@[simp] theorem ne_tt {a b : List D} {st : Sto} (h1 : shps 60 a = true) (h2 : shps 60 b = true) : cmpop .NotEq (.tup a) (.tup b) st = ok (.bl (!eqDs a b)) st := if_pos ⟨h1, h2⟩
@[simp] theorem shp_non (k : Nat) : shp k .non = true := by cases k <;> rfl
@[simp] theorem shp_bl (k : Nat) (b : Bool) : shp k (.bl b) = true := by cases k <;> rfl
@[simp] theorem shp_int (k : Nat) (b : Int) : shp k (.int b) = true := by cases k <;> rfl
@[simp] theorem shp_tup (k : Nat) (ds : List D) : shp (k + 1) (.tup ds) = shps k ds := (rfl)
@[simp] theorem shps_nil (k : Nat) : shps k [] = true := by cases k <;> rfl
@[simp] theorem shps_cons (k : Nat) (d : D) (ds : List D) : shps k (d :: ds) = (shp k d && shps k ds) := by cases k <;> rfl
theorem shps_all {k : Nat} {ds : List D} : shps k ds = true ↔ ∀ d ∈ ds, shp k d = true := by
  induction ds with
  | nil => simp
  | cons d ds ih => simp [ih]
@[simp] theorem eqD_ii (i j : Int) : eqD (.int i) (.int j) = (i == j) := by simp [eqD]
@[simp] theorem eqD_tt (a b : List D) : eqD (.tup a) (.tup b) = eqDs a b := by simp [eqD]
@[simp] theorem eqDs_nn : eqDs [] [] = true := by simp [eqDs]
@[simp] theorem eqDs_nc (d : D) (ds : List D) : eqDs [] (d :: ds) = false := by simp [eqDs]
@[simp] theorem eqDs_cn (d : D) (ds : List D) : eqDs (d :: ds) [] = false := by simp [eqDs]
@[simp] theorem eqDs_cc (d e : D) (ds es : List D) : eqDs (d :: ds) (e :: es) = (eqD d e && eqDs ds es) := by simp [eqDs]
@[simp] theorem eqDs_r (ds : List D) : eqDs ds [] = ds.isEmpty := by cases ds <;> simp
@[simp] theorem mul_ti {a : List D} {k : Int} {st : Sto} (h : a ≠ [] ∧ 1 ≤ k ∧ k ≤ 1000 ∧ a.length ≤ 1000) : binop .Mult (.tup a) (.int k) st = ok (.tup (List.replicate k.toNat a).flatten) st := if_pos h
theorem shl_ii {i j : Int} {st : Sto} (h : 0 ≤ j ∧ (i.natAbs.log2 : Int) + j < BITS) : binop .LShift (.int i) (.int j) st = ok (.int (i * 2 ^ j.toNat)) st := if_pos h
@[simp] theorem shr_ii {i j : Int} {st : Sto} (h : 0 ≤ j) : binop .RShift (.int i) (.int j) st = ok (.int (i / 2 ^ j.toNat)) st := if_pos h
@[simp] theorem add_ss {a b : Str} {st : Sto} (h : a.length + b.length ≤ LINE) : binop .Add (.str a) (.str b) st = ok (.str (a ++ b)) st := if_pos h

/-! ### loops, calls -/
/-- what a def's body must reach for the call to reach Q -/
def Fin (st : Sto) (Q : D → Sto → Prop) : Fl → Sto → Prop
  | .rt d, st' => Q d (gc st d st')
  | .nx _, st' => Q .non (gc st .non st')
  | _, _ => False
@[simp] theorem Fin_rt (st : Sto) (Q : D → Sto → Prop) (d : D) (st' : Sto) : Fin st Q (.rt d) st' = Q d (gc st d st') := (rfl)
@[simp] theorem Fin_nx (st : Sto) (Q : D → Sto → Prop) (σ : Env) (st' : Sto) : Fin st Q (.nx σ) st' = Q .non (gc st .non st') := (rfl)
/-- what a turn of a loop must reach -/
def Turn (I : Env → Sto → Prop) : Fl → Sto → Prop
  | .nx σ, st => I σ st
  | .ct σ, st => I σ st
  | _, _ => False
@[simp] theorem Turn_nx (I : Env → Sto → Prop) (σ : Env) (st : Sto) : Turn I (.nx σ) st = I σ st := (rfl)
@[simp] theorem Turn_ct (I : Env → Sto → Prop) (σ : Env) (st : Sto) : Turn I (.ct σ) st = I σ st := (rfl)
theorem Run_call {P : Str → Option FD} {f : Str} {n np nv : Nat} {b : List S} {ds : List D} {st : Sto} {Q : D → Sto → Prop} (hP : P f = some ⟨np, nv, b⟩) (hl : ds.length = np)
    (h : Run (exs (call P n) b (ds.map some ++ List.replicate (nv - ds.length) none) st) (Fin st Q)) : Run (call P (n + 1) f ds st) Q := by
  rw [call_at hP hl]
  obtain ⟨fl, st', e, q⟩ := h
  rw [e]
  cases fl with
  | rt d => exact ⟨_, _, rfl, q⟩
  | nx σ => exact ⟨_, _, rfl, q⟩
  | bk σ => exact q.elim
  | ct σ => exact q.elim
theorem Run_for {g : Grd} {tg : G} {b : Env → Sto → R Fl} {Q : Fl → Sto → Prop} {is : List D} {σ : Env} {st : Sto} (I : Nat → Env → Sto → Prop) (hg : ∀ i σ st, I i σ st → held g st)
    (h0 : I 0 σ st)
    (step : ∀ i d σ st, is[i]? = some d → I i σ st → ∃ σ1, asgG tg d σ = some σ1 ∧ Run (b σ1 st) (Turn (I (i + 1))))
    (hQ : ∀ σ st, I is.length σ st → Q (.nx σ) st) : Run (forL g tg b is σ st) Q := by
  obtain ⟨σ', st', e, h⟩ := forL_inv (g := g) (tg := tg) (b := b) I (is := is) hg (fun i d σ st hi h => by
    obtain ⟨σ1, e1, fl, st2, e2, q⟩ := step i d σ st hi h
    cases fl with
    | nx σ2 => exact ⟨σ1, e1, σ2, st2, .inl e2, q⟩
    | ct σ2 => exact ⟨σ1, e1, σ2, st2, .inr e2, q⟩
    | bk σ => exact q.elim
    | rt σ => exact q.elim) is 0 σ st rfl (Nat.zero_le _) h0
  exact ⟨_, _, e, hQ _ _ h⟩
theorem rangeL_get {lo : Int} {n i : Nat} {d : D} (h : (rangeL lo n)[i]? = some d) : i < n ∧ d = .int (lo + (i : Nat)) := by
  unfold rangeL at h
  rw [List.getElem?_map] at h
  by_cases q : i < n
  · rw [List.getElem?_range q] at h
    cases h
    exact ⟨q, rfl⟩
  · rw [List.getElem?_eq_none (by rw [List.length_range]; omega)] at h
    cases h
@[simp] theorem rangeL_length (lo : Int) (n : Nat) : (rangeL lo n).length = n := by
  unfold rangeL; rw [List.length_map, List.length_range]
/-- over a range, one name -/
theorem Run_rng {v : Nat} {b : Env → Sto → R Fl} {Q : Fl → Sto → Prop} {lo : Int} {n : Nat} {σ : Env} {st : Sto} (I : Nat → Env → Sto → Prop)
    (h0 : I 0 σ st)
    (step : ∀ (i : Nat) σ st, i < n → I i σ st → Run (b (σ.set v (some (.int (lo + (i : Nat))))) st) (Turn (I (i + 1))))
    (hQ : ∀ σ st, I n σ st → Q (.nx σ) st) : Run (forL [] (.v v) b (rangeL lo n) σ st) Q := by
  refine Run_for I (fun _ _ _ _ => held_nil _) h0 (fun i d σ st hi h => ?_) (fun σ st h => hQ σ st (by rw [rangeL_length] at h; exact h))
  obtain ⟨h1, rfl⟩ := rangeL_get hi
  exact ⟨_, asgG_v _ _ _, step i σ st h1 h⟩
/-- a comprehension by an invariant -/
theorem Run_comp {g : Grd} {tg : G} {σw : Env} {f : Env → List D → Sto → R (List D)} {is : List D} (I : Nat → List D → Sto → Prop) (hg : ∀ i acc st, I i acc st → held g st)
    (step : ∀ i d acc st, is[i]? = some d → I i acc st → ∃ σ1, asgG tg d σw = some σ1 ∧ Run (f σ1 acc st) (I (i + 1))) :
    ∀ (ds : List D) (i : Nat) (acc : List D) (st : Sto), is.drop i = ds → i ≤ is.length → I i acc st → Run (compL g tg σw f ds acc st) (I is.length)
  | [], i, acc, st, e, hi, h => by
    have hl : i = is.length := by
      have := congrArg List.length e
      rw [List.length_drop, List.length_nil] at this
      omega
    subst hl
    unfold compL
    rw [if_pos (hg _ _ _ h)]
    exact Run_ok' h
  | d :: ds, i, acc, st, e, hi, h => by
    have hl : i < is.length := by
      have := congrArg List.length e
      rw [List.length_drop, List.length_cons] at this
      omega
    have e2 := List.drop_eq_getElem_cons hl
    rw [e] at e2
    obtain ⟨e3, e4⟩ := List.cons.inj e2
    obtain ⟨σ1, h1, h2⟩ := step i d acc st (by rw [List.getElem?_eq_getElem hl, e3]) h
    rw [compL, if_pos (hg _ _ _ h), h1]
    exact Run_bnd (Run_noX.2 h2) fun acc' st' h' => Run_comp I hg step ds (i + 1) acc' st' e4.symm hl h'
/-- a comprehension without tests, its items reckoned without a trace -/
theorem comp_map {g : Grd} {tg : G} {σw : Env} {C : CalT} {elt : T} {h : D → D} {ds : List D} {st : Sto} (hg : held g st) (hl : ds.length ≤ LINE)
    (hd : ∀ d ∈ ds, ∃ σ', asgG tg d σw = some σ' ∧ ev C elt σ' st = ok (h d) st) : compL g tg σw (turn C elt []) ds [] st = ok (ds.map h) st := by
  have := compL_map (g := g) (tg := tg) (σw := σw) (f := turn C elt []) (h := h) hg ds [] (fun d hd' => by
    obtain ⟨σ', e1, e2⟩ := hd d hd'
    refine ⟨σ', e1, fun acc ha => ?_⟩
    unfold turn
    rw [qevc_nil, bnd_ok, kTurn_ap, if_pos rfl, e2, bnd_ok, kTurn2_ap, if_pos ha]) (by rw [List.length_nil]; omega)
  rw [this, List.nil_append]
/-- a comprehension with tests, its items reckoned without a trace -/
theorem comp_filter {g : Grd} {tg : G} {σw : Env} {C : CalT} {elt : T} {cs : List T} {p : D → Bool} {h : D → D} {st : Sto} (hg : held g st) : ∀ (ds acc : List D), acc.length + ds.length ≤ LINE →
    (∀ d ∈ ds, ∃ σ', asgG tg d σw = some σ' ∧ evc C cs σ' st = ok (p d) st ∧ (p d = true → ev C elt σ' st = ok (h d) st)) → compL g tg σw (turn C elt cs) ds acc st = ok (acc ++ (ds.filter p).map h) st
  | [], acc, _, _ => by
    unfold compL
    rw [if_pos hg]; simp
  | d :: ds, acc, hl, hd => by
    rw [List.length_cons] at hl
    obtain ⟨σ', e1, e2, e3⟩ := hd d List.mem_cons_self
    have ih := fun acc hl => comp_filter (g := g) (tg := tg) (σw := σw) (C := C) (elt := elt) (cs := cs) (p := p) (h := h) hg ds acc hl fun x hx => hd x (List.mem_cons_of_mem _ hx)
    rw [compL, if_pos hg, e1]
    show bnd (noX (bnd (evc C cs σ' st) (kTurn C elt σ' acc))) _ = _
    rw [e2, bnd_ok, kTurn_ap]
    cases hp : p d with
    | true =>
      rw [if_pos rfl, e3 hp, bnd_ok, kTurn2_ap, if_pos (by omega), noX_ok, bnd_ok, ih _ (by rw [List.length_append, List.length_singleton]; omega)]
      simp [hp]
    | false =>
      rw [if_neg (by decide), noX_ok, bnd_ok, ih _ (by omega)]
      simp [hp]
theorem Run_whl {c : Env → Sto → R D} {b : Env → Sto → R Fl} {Q : Fl → Sto → Prop} (I : Nat → Env → Sto → Prop)
    (step : ∀ k σ st, I k σ st → (∃ st1, c σ st = some (.ok (.bl false), st1) ∧ Q (.nx σ) st1) ∨ ∃ st1, c σ st = some (.ok (.bl true), st1) ∧ Run (b σ st1) (Turn fun σ st => ∃ k', k' < k ∧ I k' σ st)) :
    ∀ k σ st, I k σ st → Run (whl c b σ st) Q := by
  intro k
  induction k using Nat.strongRecOn with
  | _ k ih =>
    intro σ st h
    rcases step k σ st h with ⟨st1, e, q⟩ | ⟨st1, e, fl, st2, e2, q⟩
    · rw [whl]
      unfold whlS
      rw [e]
      exact ⟨_, _, rfl, q⟩
    · rw [whl]
      unfold whlS
      rw [e]
      simp only [e2]
      cases fl with
      | nx σ2 => obtain ⟨k', lt, q⟩ := q; exact ih k' lt σ2 st2 q
      | ct σ2 => obtain ⟨k', lt, q⟩ := q; exact ih k' lt σ2 st2 q
      | bk σ2 => exact q.elim
      | rt d => exact q.elim
/-! ### a store over another -/
theorem ov_push {st s : Sto} (t : Sto) (h : st <+: s) : st <+: s ++ t := h.trans (List.prefix_append _ _)
theorem ov_set {st s : Sto} {k : Nat} {o : O} (h : st <+: s) (hk : st.length ≤ k) : st <+: s.set k o := by
  obtain ⟨t, rfl⟩ := h
  rw [List.set_append_right _ _ hk]
  exact List.prefix_append _ _
theorem ov_get {st s : Sto} {i : Nat} {o : O} (h : st <+: s) (e : st[i]? = some o) : s[i]? = some o := by
  obtain ⟨t, rfl⟩ := h
  rw [List.getElem?_append_left (List.getElem?_eq_some_iff.1 e).1]; exact e
theorem get_pre {s : Sto} {i : Nat} {o : O} (t : Sto) (e : s[i]? = some o) : (s ++ t)[i]? = some o := ov_get (List.prefix_append _ _) e
theorem gc_ov {st s : Sto} {d : D} (h : st <+: s) (hd : d.blw st.length = true) : gc st d s = st := by
  obtain ⟨t, rfl⟩ := h
  exact gc_same hd
theorem get_lt {s : Sto} {i : Nat} {o : O} (e : s[i]? = some o) : i < s.length := (List.getElem?_eq_some_iff.1 e).1
theorem Run_compR {v : Nat} {σw : Env} {f : Env → List D → Sto → R (List D)} {lo : Int} {n : Nat} {st : Sto} {Q : List D → Sto → Prop} (I : Nat → List D → Sto → Prop)
    (h0 : I 0 [] st) (step : ∀ (k : Nat) acc st, k < n → I k acc st → Run (f (σw.set v (some (.int (lo + (k : Nat))))) acc st) (I (k + 1))) (hQ : ∀ acc st, I n acc st → Q acc st) :
    Run (compL [] (.v v) σw f (rangeL lo n) [] st) Q := by
  refine Run_imp (Run_comp I (fun _ _ _ _ => held_nil _) (fun i d acc st hi h => ?_) (rangeL lo n) 0 [] st rfl (Nat.zero_le _) h0) fun acc st h => hQ acc st (by have e := rangeL_length lo n; unfold rangeL at e; rw [e] at h; exact h)
  obtain ⟨hk, rfl⟩ := rangeL_get hi
  exact ⟨_, asgG_v _ _ _, step i acc st hk h⟩
end MP

set_option Elab.async false
set_option linter.all false
set_option maxRecDepth 100000
set_option maxHeartbeats 4000000
/-! the laws' draws, of the kind with a bag of seven -/
namespace MP
open PySem (Str Operator CmpOp)
open PySem
def mixedL : List S := [
  .asg (.v 2) (.bin .Mod (.bi .int [(.bin .Add (.bin .Add (.bin .Mult (.v 0) (.int 48271)) (.bin .Mult (.v 1) (.int 69621))) (.int 12345))]) (.int 2147483647)),
  .asg (.v 3) (.bin .Mod (.bi .int [(.bin .Add (.bin .Add (.bin .Mult (.v 2) (.v 2)) (.bin .Mult (.v 1) (.int 40692))) (.bin .FloorDiv (.v 2) (.int 7)))]) (.int 2147483399)),
  .ret (.bin .Mod (.bi .int [(.bin .Add (.bin .Add (.bin .Mult (.v 3) (.int 16807)) (.bin .FloorDiv (.v 3) (.int 1013))) (.v 1))]) (.int 998244353))]
def drawB : List S := [
  .setIx (.v 0) (.int 3) (.bin .Add (.ix (.v 0) (.int 3)) (.int 1)),
  .asg (.v 2) (.ix (.v 0) (.int 0)),
  .ife (.cmp .Eq (.bi .len [(.v 2)]) (.int 0)) [
    .ret (.bin .Mod (.bi .int [(.call "_law_mixed" [(.int 0), (.ix (.v 0) (.int 3))] [])]) (.v 1))] [],
  .ife (.and (.cmp .Eq (.ix (.v 0) (.int 4)) (.int 0)) (.and (.cmp .Eq (.ix (.v 0) (.int 2)) (.int 0)) (.cmp .Lt (.ix (.v 0) (.int 1)) (.bi .len [(.v 2)])))) [
    .asg (.v 3) (.ix (.v 2) (.ix (.v 0) (.int 1))),
    .setIx (.v 0) (.int 1) (.bin .Add (.ix (.v 0) (.int 1)) (.int 1)),
    .ife (.cmp .Lt (.v 3) (.bin .Pow (.int 10) (.int 18))) [
      .ret (.bin .Mod (.bi .int [(.call "_law_mixed" [(.v 3), (.ix (.v 0) (.int 3))] [])]) (.v 1))] [],
    .setIx (.v 0) (.int 2) (.v 3),
    .setIx (.v 0) (.int 5) (.int 60)] [],
  .ife (.or (.cmp .Eq (.ix (.v 0) (.int 4)) (.int 1)) (.cmp .Eq (.ix (.v 0) (.int 2)) (.int 0))) [
    .ret (.bin .Mod (.bi .int [(.call "_law_mixed" [(.ix (.ix (.v 0) (.int 6)) (.bin .Mod (.bi .int [(.ix (.v 0) (.int 3))]) (.bi .len [(.v 2)]))), (.ix (.v 0) (.int 3))] [])]) (.v 1))] [],
  .asg (.v 4) (.bin .Mod (.bi .int [(.ix (.v 0) (.int 2))]) (.v 1)),
  .setIx (.v 0) (.int 5) (.bin .Sub (.ix (.v 0) (.int 5)) (.int 1)),
  .setIx (.v 0) (.int 2) (.bin .Mult (.bin .FloorDiv (.bi .int [(.ix (.v 0) (.int 2))]) (.v 1)) (.bi .int [(.cmp .Gt (.ix (.v 0) (.int 5)) (.int 0))])),
  .ret (.v 4)]
def startB : List S := [
  .asg (.v 1) (.lst [(.bi .list [(.v 0)]), (.int 0), (.int 0), (.int 0), (.int 0), (.int 0), (.comp (.bin .Mod (.bi .int [(.v 2)]) (.int 2147483647)) (.v 2) .seq [(.v 0)] [] [2])]),
  .ife (.or (.cmp .Eq (.bi .len [(.v 0)]) (.int 0)) (.cmp .Eq (.bin .Mod (.bi .int [(.ix (.v 0) (.int 0))]) (.int 2)) (.int 1))) [
    .setIx (.v 1) (.int 4) (.int 1)] [],
  .expr (.call "_law_draw" [(.v 1), (.int 2)] []),
  .ret (.v 1)]
def sameL : List S := [
  .ife (.tru (.isi (.v 1) .tuple)) [
    .ife (.or (.not (.tru (.isi (.v 0) .tuple))) (.cmp .NotEq (.bi .len [(.v 0)]) (.bi .len [(.v 1)]))) [
      .ret (.bl false)] [],
    .for_ (.v 2) .rng1 [(.bi .len [(.v 1)])] [
      .ife (.not (.tru (.call "_law_same" [(.ix (.v 0) (.v 2)), (.ix (.v 1) (.v 2))] []))) [
        .ret (.bl false)] []],
    .ret (.bl true)] [],
  .ife (.cmp .Is (.v 1) .non) [
    .ret (.cmp .Is (.v 0) .non)] [],
  .ife (.tru (.isi (.v 1) .bool)) [
    .ret (.and (.isi (.v 0) .bool) (.cmp .Eq (.v 0) (.v 1)))] [],
  .ife (.tru (.isi (.v 1) .str)) [
    .ret (.and (.isi (.v 0) .str) (.cmp .Eq (.v 0) (.v 1)))] [],
  .ret (.and (.isi (.v 0) .int) (.and (.not (.isi (.v 0) .bool)) (.cmp .Eq (.v 0) (.v 1))))]

def sml (i : Int) : Prop := i.natAbs.log2 < 2000000
theorem log2_mono {a b : Nat} (h : a ≤ b) : a.log2 ≤ b.log2 := by
  by_cases e : a = 0
  · subst e; exact Nat.zero_le _
  · exact (Nat.le_log2 (by omega)).2 (Nat.le_trans (Nat.log2_self_le e) h)
theorem sml_lit {i : Int} (h1 : -18446744073709551616 < i) (h2 : i < 18446744073709551616) : sml i := by
  have := log2_small h1 h2
  unfold sml; omega
theorem mul_sml {i j : Int} {st : Sto} (h : sml i) (h' : sml j) : binop .Mult (.int i) (.int j) st = ok (.int (i * j)) st := by
  show (if _ then _ else _) = _
  rw [if_pos]
  unfold sml at h h'
  unfold BITS
  omega

@[simp] theorem sml_num {n : Nat} (h : n < 18446744073709551616) : sml (no_index (OfNat.ofNat n : Int)) := sml_lit (show (-18446744073709551616 : Int) < ((n : Nat) : Int) by omega) (show ((n : Nat) : Int) < 18446744073709551616 by omega)
@[simp] theorem sml_mod {i j : Int} (h1 : 0 < j) (h2 : j < 18446744073709551616) : sml (i % j) := by
  have a := Int.emod_nonneg i (show j ≠ 0 by omega)
  have b := Int.emod_lt_of_pos i h1
  exact sml_lit (by omega) (by omega)


@[simp] theorem sml_bit {c : Prop} [Decidable c] : sml (if c then 1 else 0) := by
  split
  · exact sml_lit (by omega) (by omega)
  · exact sml_lit (by omega) (by omega)
theorem sml_div {i j : Int} (h0 : 0 ≤ i) (h : sml i) (hj : 0 < j) : sml (i / j) := by
  have a := Int.ediv_nonneg h0 (show 0 ≤ j by omega)
  have b := Int.ediv_le_self j h0
  have := log2_mono (a := (i / j).natAbs) (b := i.natAbs) (by omega)
  unfold sml at *
  omega
theorem mixed_ok {P : Str → Option FD} (hP : P "_law_mixed" = some ⟨2, 4, mixedL⟩) {n : Nat} {cell trip : Int} {st : Sto} (hc : sml cell) (ht : sml trip) :
    ∃ v, call P (n + 1) "_law_mixed" [.int cell, .int trip] st = ok (.int v) st := by
  rw [call_at hP rfl]
  unfold mixedL
  simp [hc, ht, mul_sml]

theorem atI_ints {zs : List Int} {i : Int} (h0 : 0 ≤ i) (h : i < zs.length) : ∃ z ∈ zs, atI (zs.map D.int) i = some (.int z) := by
  rw [atI_nn h0]
  have q : i.toNat < zs.length := by omega
  exact ⟨zs[i.toNat], List.getElem_mem q, by simp [q]⟩
structure BagB where
  cells : List Int
  rems : List Int
  pos : Int
  cur : Int
  cnt : Int
  flag : Int
  bud : Int
def BagB.objs (s : BagB) : Sto := [.lst (s.cells.map .int), .lst (s.rems.map .int), .lst [.loc 0, .int s.pos, .int s.cur, .int s.cnt, .int s.flag, .int s.bud, .loc 1]]
structure BagB.Ok (s : BagB) : Prop where
  len : s.rems.length = s.cells.length
  cells : ∀ z ∈ s.cells, sml z
  rems : ∀ z ∈ s.rems, sml z
  pos : 0 ≤ s.pos
  cur : 0 ≤ s.cur
  curs : sml s.cur
  cnt : 0 ≤ s.cnt
/-- a draw -/
theorem drawB_ok {P : Str → Option FD} (hM : P "_law_mixed" = some ⟨2, 4, mixedL⟩) (hP : P "_law_draw" = some ⟨2, 5, drawB⟩) {n : Nat} {s : BagB} {m : Int} {g : Sto} (h : s.Ok) (hc : s.cnt < 1000000000000) (m0 : 0 < m) (m1 : m < 18446744073709551616) :
    ∃ r s', call P (n + 2) "_law_draw" [.loc 2, .int m] (s.objs ++ g) = ok (.int r) (BagB.objs s' ++ g) ∧ s'.Ok ∧ s'.cnt = s.cnt + 1 ∧ 0 ≤ r ∧ r < m := by
  rw [call_at hP rfl]
  unfold drawB
  obtain ⟨v, hv⟩ := mixed_ok hM (n := n) (cell := 0) (trip := s.cnt + 1) (st := (BagB.objs { s with cnt := s.cnt + 1 } ++ g)) (by simp) (sml_lit (by have := h.cnt; omega) (by have := h.cnt; omega))
  have hcn := h.cnt
  have hct : sml (s.cnt + 1) := sml_lit (by omega) (by omega)
  simp [BagB.objs] at hv
  simp [BagB.objs]
  by_cases c1 : s.cells = []
  · simp [c1] at hv ⊢
    simp [hv, mod_pos m0]
    exact ⟨v % m, { s with cnt := s.cnt + 1 }, by simp [c1], ⟨h.len, h.cells, h.rems, h.pos, h.cur, h.curs, by show 0 ≤ s.cnt + 1; omega⟩, rfl, Int.emod_nonneg _ (by omega), Int.emod_lt_of_pos _ m0⟩
  simp [c1]
  have hl : 0 < s.cells.length := List.length_pos_iff.2 c1
  by_cases c2 : s.flag = 0 ∧ s.cur = 0 ∧ s.pos < s.cells.length
  · obtain ⟨c2, c3, c4⟩ := c2
    obtain ⟨z, hz, ez⟩ := atI_ints h.pos c4
    have sz := h.cells z hz
    have hp := h.pos
    simp [c2, c3, c4, ez]
    by_cases c5 : z < 1000000000000000000
    · obtain ⟨v, hv⟩ := mixed_ok hM (n := n) (cell := z) (trip := s.cnt + 1) (st := (BagB.objs { s with cnt := s.cnt + 1, pos := s.pos + 1 } ++ g)) sz hct
      simp [BagB.objs, c2, c3] at hv
      simp [c5, hv, m0, c1, hl, ez]
      exact ⟨_, { s with cnt := s.cnt + 1, pos := s.pos + 1 }, ⟨rfl, by simp [c2, c3]⟩, ⟨h.len, h.cells, h.rems, by show 0 ≤ s.pos + 1; omega, h.cur, h.curs, by show 0 ≤ s.cnt + 1; omega⟩, rfl, Int.emod_nonneg _ (by omega), Int.emod_lt_of_pos _ m0⟩
    · have c6 : ¬ z = 0 := by omega
      have zm := sml_div (by omega) sz m0
      simp [c5, c6, m0, m1, mul_sml, zm]
      exact ⟨_, { s with cnt := s.cnt + 1, pos := s.pos + 1, cur := z / m, bud := 59 }, ⟨rfl, by simp [c2]⟩, ⟨h.len, h.cells, h.rems, by show 0 ≤ s.pos + 1; omega, Int.ediv_nonneg (by omega) (by omega), zm, by show 0 ≤ s.cnt + 1; omega⟩, rfl, Int.emod_nonneg _ (by omega), Int.emod_lt_of_pos _ m0⟩
  obtain ⟨z, hz, ez⟩ := atI_ints (zs := s.rems) (i := (s.cnt + 1) % s.cells.length) (Int.emod_nonneg _ (by omega)) (by rw [h.len]; exact Int.emod_lt_of_pos _ (by omega))
  have sz := h.rems z hz
  have hlz : (0 : Int) < s.cells.length := by omega
  obtain ⟨v, hv⟩ := mixed_ok hM (n := n) (cell := z) (trip := s.cnt + 1) (st := (BagB.objs { s with cnt := s.cnt + 1 } ++ g)) sz hct
  simp [BagB.objs] at hv
  have zm := sml_div h.cur h.curs m0
  have zn := Int.ediv_nonneg h.cur (show 0 ≤ m by omega)
  by_cases f0 : s.flag = 0
  · by_cases k0 : s.cur = 0
    · have p0 : ¬ s.pos < s.cells.length := fun q => c2 ⟨f0, k0, q⟩
      simp [f0, k0, p0, ez, hlz]
      simp [f0, k0, p0] at hv
      simp [f0, k0, p0, hv, m0, c1, hl, ez]
      exact ⟨v % m, { s with cnt := s.cnt + 1 }, by simp [f0, k0], ⟨h.len, h.cells, h.rems, h.pos, h.cur, h.curs, by show 0 ≤ s.cnt + 1; omega⟩, rfl, Int.emod_nonneg _ (by omega), Int.emod_lt_of_pos _ m0⟩
    · skip
      simp [f0, k0, m0, m1, mul_sml, zm]
      exact ⟨_, { s with cnt := s.cnt + 1, cur := s.cur / m * (if 0 < s.bud - 1 then 1 else 0), bud := s.bud - 1 }, ⟨rfl, by simp [f0]⟩, ⟨h.len, h.cells, h.rems, h.pos, by show 0 ≤ s.cur / m * (if 0 < s.bud - 1 then 1 else 0); split <;> omega, by show sml (s.cur / m * (if 0 < s.bud - 1 then 1 else 0)); split <;> simp [zm], by show 0 ≤ s.cnt + 1; omega⟩, rfl, Int.emod_nonneg _ (by omega), Int.emod_lt_of_pos _ m0⟩
  by_cases f1 : s.flag = 1
  · skip
    simp [f1, ez, hlz]
    simp [f1] at hv
    simp [f1, hv, m0, c1, hl, ez]
    exact ⟨v % m, { s with cnt := s.cnt + 1 }, by simp [f1], ⟨h.len, h.cells, h.rems, h.pos, h.cur, h.curs, by show 0 ≤ s.cnt + 1; omega⟩, rfl, Int.emod_nonneg _ (by omega), Int.emod_lt_of_pos _ m0⟩
  by_cases k0 : s.cur = 0
  · skip
    simp [f0, f1, k0, ez, hlz]
    simp [f0, f1, k0] at hv
    simp [f0, f1, k0, hv, m0, c1, hl, ez]
    exact ⟨v % m, { s with cnt := s.cnt + 1 }, by simp [k0], ⟨h.len, h.cells, h.rems, h.pos, h.cur, h.curs, by show 0 ≤ s.cnt + 1; omega⟩, rfl, Int.emod_nonneg _ (by omega), Int.emod_lt_of_pos _ m0⟩
  simp [f0, f1, k0, m0, m1, mul_sml, zm]
  exact ⟨_, { s with cnt := s.cnt + 1, cur := s.cur / m * (if 0 < s.bud - 1 then 1 else 0), bud := s.bud - 1 }, ⟨rfl, by simp [f0]⟩, ⟨h.len, h.cells, h.rems, h.pos, by show 0 ≤ s.cur / m * (if 0 < s.bud - 1 then 1 else 0); split <;> omega, by show sml (s.cur / m * (if 0 < s.bud - 1 then 1 else 0)); split <;> simp [zm], by show 0 ≤ s.cnt + 1; omega⟩, rfl, Int.emod_nonneg _ (by omega), Int.emod_lt_of_pos _ m0⟩

theorem startB_ok {P : Str → Option FD} (hM : P "_law_mixed" = some ⟨2, 4, mixedL⟩) (hD : P "_law_draw" = some ⟨2, 5, drawB⟩) (hP : P "_law_start" = some ⟨1, 3, startB⟩) {n : Nat} {ns : List Int} (hl : ns.length ≤ 63) (hs : ∀ z ∈ ns, sml z) :
    ∃ s', call P (n + 3) "_law_start" [.rol (ns.map .int)] [] = ok (.loc 2) (BagB.objs s') ∧ s'.Ok ∧ s'.cnt = 1 := by
  rw [call_at hP rfl]
  unfold startB
  have e1 : ∀ C st, compL [] (.v 2) (wipe [some (.rol (ns.map D.int)), none, none] [2]) (turn C (.bin .Mod (.bi .int [.v 2]) (.int 2147483647)) []) (ns.map D.int) [] st = ok ((ns.map fun z => z % 2147483647).map D.int) st := by
    intro C st
    rw [comp_map (h := fun d => match d with | .int z => .int (z % 2147483647) | d => d) (held_nil st) (by simp [LINE]; omega)]
    · simp
    · intro d hd
      obtain ⟨z, _, rfl⟩ := List.mem_map.1 hd
      simp [wipe]
  have key : ∀ f : Int, ∃ s', (∃ r, call P (n + 2) "_law_draw" [.loc 2, .int 2] (BagB.objs ⟨ns, ns.map fun z => z % 2147483647, 0, 0, 0, f, 0⟩) = ok (.int r) (BagB.objs s')) ∧ s'.Ok ∧ s'.cnt = 1 := by
    intro f
    obtain ⟨r, s', h1, h2, h3, _⟩ := drawB_ok hM hD (n := n) (m := 2) (g := []) (s := ⟨ns, ns.map fun z => z % 2147483647, 0, 0, 0, f, 0⟩) ⟨by simp, hs, by simp, by simp, by simp, by simp, by simp⟩ (by simp) (by simp) (by simp)
    exact ⟨s', ⟨r, by simpa using h1⟩, h2, h3⟩
  simp [e1]
  rcases ns with _ | ⟨z, zs⟩
  · obtain ⟨s', ⟨r, h1⟩, h2, h3⟩ := key 1
    simp [BagB.objs] at h1
    simp [h1]
    exact ⟨s', rfl, h2, h3⟩
  · by_cases c : z % 2 = 1
    · obtain ⟨s', ⟨r, h1⟩, h2, h3⟩ := key 1
      simp [BagB.objs] at h1
      simp [h1, c]
      exact ⟨s', rfl, h2, h3⟩
    · obtain ⟨s', ⟨r, h1⟩, h2, h3⟩ := key 0
      simp [BagB.objs] at h1
      simp [h1, c]
      exact ⟨s', rfl, h2, h3⟩
@[simp] theorem objs_len (s : BagB) : s.objs.length = 3 := (rfl)
theorem objs_get (s : BagB) (g : Sto) (k : Nat) : (s.objs ++ g)[3 + k]? = g[k]? := by
  rw [List.getElem?_append_right (by simp)]
  simp
@[simp] theorem get_end {α : Type} (g : List α) (o : α) (t : List α) : (g ++ o :: t)[g.length]? = some o := by
  rw [List.getElem?_append_right (Nat.le_refl _)]
  simp
@[simp] theorem objs_end (s : BagB) (g : Sto) (o : O) (t : Sto) : (s.objs ++ (g ++ o :: t))[3 + g.length]? = some o := by
  rw [objs_get]; simp
theorem drawB_run {P : Str → Option FD} (hM : P "_law_mixed" = some ⟨2, 4, mixedL⟩) (hP : P "_law_draw" = some ⟨2, 5, drawB⟩) {n : Nat} {s : BagB} {m : Int} {g : Sto} (h : s.Ok) (hc : s.cnt < 1000000000000) (m0 : 0 < m) (m1 : m < 18446744073709551616) :
    Run (call P (n + 2) "_law_draw" [.loc 2, .int m] (s.objs ++ g)) fun d st => ∃ r s', d = .int r ∧ st = BagB.objs s' ++ g ∧ s'.Ok ∧ s'.cnt = s.cnt + 1 ∧ 0 ≤ r ∧ r < m := by
  obtain ⟨r, s', e, h⟩ := drawB_ok hM hP (n := n) (g := g) h hc m0 m1
  exact ⟨_, _, e, r, s', rfl, rfl, h⟩
theorem bits_sml {z : Int} (h : Builtin.Int.intBits z ≤ 1048576) : sml z := by
  unfold Builtin.Int.intBits at h
  unfold sml
  split at h
  · rename_i q
    have : z = 0 := by simpa using q
    subst this; decide
  · omega
end MP

set_option Elab.async false
set_option linter.all false
set_option maxRecDepth 100000
set_option maxHeartbeats 4000000
/-! the laws' comparison: a value is the same as itself -/
namespace MP
open PySem (Str Operator CmpOp)
mutual
def sam : Nat → D → Bool
  | _, .non => true
  | _, .bl _ => true
  | _, .int _ => true
  | _, .str _ => true
  | 0, .tup _ => false
  | k + 1, .tup ds => decide (ds.length ≤ LINE) && sams k ds
  | _, .loc _ => false
  | _, .rol _ => false
def sams : Nat → List D → Bool
  | _, [] => true
  | k, d :: ds => sam k d && sams k ds
end
@[simp] theorem sam_non (k : Nat) : sam k .non = true := by cases k <;> rfl
@[simp] theorem sam_bl (k : Nat) (b : Bool) : sam k (.bl b) = true := by cases k <;> rfl
@[simp] theorem sam_int (k : Nat) (b : Int) : sam k (.int b) = true := by cases k <;> rfl
@[simp] theorem sam_str (k : Nat) (b : Str) : sam k (.str b) = true := by cases k <;> rfl
@[simp] theorem sam_tup (k : Nat) (ds : List D) : sam (k + 1) (.tup ds) = (decide (ds.length ≤ LINE) && sams k ds) := (rfl)
@[simp] theorem sams_nil (k : Nat) : sams k [] = true := by cases k <;> rfl
@[simp] theorem sams_cons (k : Nat) (d : D) (ds : List D) : sams k (d :: ds) = (sam k d && sams k ds) := by cases k <;> rfl
theorem sams_all {k : Nat} {ds : List D} : sams k ds = true ↔ ∀ d ∈ ds, sam k d = true := by
  induction ds with
  | nil => simp
  | cons d ds ih => simp [ih]
@[simp] theorem sams_ints (k : Nat) (is : List Int) : sams k (is.map .int) = true := sams_all.2 fun d hd => by
  obtain ⟨i, _, rfl⟩ := List.mem_map.1 hd
  simp

theorem same_ok {P : Str → Option FD} (hP : P "_law_same" = some ⟨2, 3, sameL⟩) : ∀ (k n : Nat) (d : D) (st : Sto), sam k d = true → call P (n + k + 1) "_law_same" [d, d] st = ok (.bl true) st := by
  intro k
  induction k with
  | zero =>
    intro n d st h
    rw [call_at hP rfl]
    unfold sameL
    cases d with
    | tup ds => cases h
    | loc m => cases h
    | rol ds => cases h
    | non => simp [isop, isTy, isNon]
    | bl b => simp [isop, isTy, isNon]
    | int b => simp [isop, isTy, isNon]
    | str b => simp [isop, isTy, isNon]
  | succ k ih =>
    intro n d st h
    rw [call_at hP rfl]
    unfold sameL
    cases d with
    | loc m => cases h
    | rol ds => cases h
    | non => simp [isop, isTy, isNon]
    | bl b => simp [isop, isTy, isNon]
    | int b => simp [isop, isTy, isNon]
    | str b => simp [isop, isTy, isNon]
    | tup ds =>
      simp only [sam_tup, Bool.and_eq_true, decide_eq_true_eq, LINE] at h
      obtain ⟨h1, h2⟩ := h
      rw [sams_all] at h2
      simp
      have := of_decide_eq_true h1
      rw [items_rng1 (by omega)]
      simp
      have lp : ∀ Q : Fl → Sto → Prop, (∀ x, Q (.nx [some (.tup ds), some (.tup ds), x]) st) → Run (forL [] (.v 2) (exs (call P (n + (k + 1))) [
      .ife (.not (.tru (.call "_law_same" [(.ix (.v 0) (.v 2)), (.ix (.v 1) (.v 2))] []))) [
        .ret (.bl false)] []]) (rangeL 0 ds.length) [some (.tup ds), some (.tup ds), none] st) Q := by
        intro Q hQ
        refine Run_rng (fun i σ s => s = st ∧ ∃ x, σ = [some (.tup ds), some (.tup ds), x]) ⟨rfl, _, rfl⟩ ?_ ?_
        · rintro i σ s hi ⟨rfl, x, rfl⟩
          have q := ih n ds[i] s (h2 _ (List.getElem_mem hi))
          have e : atI ds (i : Int) = some ds[i] := by rw [atI_nn (by omega)]; simp [hi]
          rw [Nat.add_assoc] at q
          simp [e, q]
        · rintro σ s ⟨rfl, x, rfl⟩
          exact hQ _
      obtain ⟨f, s, e, x, rfl, rfl⟩ := lp (fun f s => ∃ x, f = .nx [some (.tup ds), some (.tup ds), x] ∧ s = st) fun x => ⟨x, rfl, rfl⟩
      simp [e]
end MP

set_option Elab.async false
set_option linter.all false
set_option maxRecDepth 100000
set_option maxHeartbeats 4000000
/-! the laws' draws, of the kind with a bag of four -/
namespace MP
open PySem (Str Operator CmpOp)
open PySem
def drawA : List S := [
  .setIx (.v 0) (.int 1) (.bin .Add (.ix (.v 0) (.int 1)) (.int 1)),
  .ife (.and (.cmp .Eq (.ix (.v 0) (.int 0)) (.int 0)) (.cmp .Gt (.bi .len [(.ix (.v 0) (.int 2))]) (.int 0))) [
    .setIx (.v 0) (.int 0) (.mt .pop (.ix (.v 0) (.int 2)) [])] [],
  .ife (.cmp .Gt (.ix (.v 0) (.int 0)) (.int 0)) [
    .asg (.v 2) (.bin .Mod (.bi .int [(.ix (.v 0) (.int 0))]) (.v 1)),
    .setIx (.v 0) (.int 0) (.bin .FloorDiv (.ix (.v 0) (.int 0)) (.v 1)),
    .ret (.v 2)] [],
  .asg (.v 3) (.ix (.ix (.v 0) (.int 3)) (.bin .Mod (.bi .int [(.ix (.v 0) (.int 1))]) (.bi .len [(.ix (.v 0) (.int 3))]))),
  .asg (.v 4) (.bin .Mod (.bi .int [(.bin .Add (.bin .Add (.bin .Mult (.v 3) (.int 48271)) (.bin .Mult (.ix (.v 0) (.int 1)) (.int 69621))) (.int 1))]) (.int 2147483647)),
  .ret (.bin .Mod (.bin .FloorDiv (.bin .Mod (.bi .int [(.bin .Add (.bin .Add (.bin .Mult (.v 4) (.v 4)) (.bin .Mult (.v 4) (.int 16807))) (.bin .Mult (.ix (.v 0) (.int 1)) (.int 40014)))]) (.int 2147483629)) (.int 32)) (.v 1))]
def bagA : List S := [
  .asg (.v 1) (.bin .Add (.comp (.bi .abs [(.bi .int [(.v 3)])]) (.v 3) .seq [(.v 0)] [] [3]) (.lst [(.int 7)])),
  .asg (.v 2) (.lst []),
  .ife (.cmp .Eq (.bin .Mod (.bi .int [(.ix (.v 1) (.int 0))]) (.int 2)) (.int 0)) [
    .asg (.v 2) (.comp (.bin .FloorDiv (.v 3) (.int 2)) (.v 3) .seq [(.v 1)] [(.cmp .GtE (.v 3) (.bin .Pow (.int 10) (.int 18)))] [3]),
    .expr (.mt .reverse (.v 2) [])] [],
  .ret (.lst [(.int 0), (.int 0), (.v 2), (.comp (.bin .Mod (.bi .int [(.v 3)]) (.int 2147483647)) (.v 3) .seq [(.v 1)] [] [3])])]
def pickA : List S := [
  .ret (.ix (.v 1) (.call "_law_draw" [(.v 0), (.bi .len [(.v 1)])] []))]
def sameA : List S := [
  .ife (.cmp .Is (.v 1) .non) [
    .ret (.cmp .Is (.v 0) .non)] [],
  .ife (.or (.tru (.isi (.v 1) .bool)) (.tru (.isi (.v 0) .bool))) [
    .ret (.and (.isi (.v 1) .bool) (.and (.isi (.v 0) .bool) (.cmp .Eq (.v 0) (.v 1))))] [],
  .ife (.tru (.isi (.v 1) .int)) [
    .ret (.and (.isi (.v 0) .int) (.cmp .Eq (.v 0) (.v 1)))] [],
  .ife (.tru (.isi (.v 1) .str)) [
    .ret (.and (.isi (.v 0) .str) (.cmp .Eq (.v 0) (.v 1)))] [],
  .ife (.or (.not (.tru (.isi (.v 1) .tuple))) (.or (.not (.tru (.isi (.v 0) .tuple))) (.cmp .NotEq (.bi .len [(.v 0)]) (.bi .len [(.v 1)])))) [
    .ret (.bl false)] [],
  .for_ (.v 2) .rng1 [(.bi .len [(.v 1)])] [
    .ife (.not (.tru (.call "_law_same" [(.ix (.v 0) (.v 2)), (.ix (.v 1) (.v 2))] []))) [
      .ret (.bl false)] []],
  .ret (.bl true)]

/-! ### places behind a fixed beginning -/
theorem get_plus {α : Type} (g : List α) (t : List α) (k : Nat) : (g ++ t)[g.length + k]? = t[k]? := by
  rw [List.getElem?_append_right (by omega)]; simp
theorem set_plus {α : Type} (g : List α) (t : List α) (k : Nat) (o : α) : (g ++ t).set (g.length + k) o = g ++ t.set k o := by
  rw [List.set_append_right _ _ (by omega)]; simp
theorem set_zero' {α : Type} (g : List α) (t : List α) (o : α) : (g ++ t).set g.length o = g ++ t.set 0 o := set_plus g t 0 o
theorem get_zero' {α : Type} (g : List α) (t : List α) : (g ++ t)[g.length]? = t[0]? := get_plus g t 0

theorem log2_big {j : Int} (h1 : 0 < j) (h2 : j < 115792089237316195423570985008687907853269984665640564039457584007913129639936) : j.natAbs.log2 < DIVB := by
  have : j.natAbs.log2 < 256 := by rw [Nat.log2_lt (by omega)]; omega
  unfold DIVB; omega
theorem div_big {i j : Int} {st : Sto} (h1 : 0 < j) (h2 : j < 115792089237316195423570985008687907853269984665640564039457584007913129639936) : binop .FloorDiv (.int i) (.int j) st = ok (.int (i / j)) st := by
  show (if _ then _ else _) = _
  rw [if_pos ⟨by omega, log2_big h1 h2⟩, Int.fdiv_eq_ediv_of_nonneg _ (by omega)]

structure BagA where
  great : List Int
  rems : List Int
  cur : Int
  cnt : Int
def BagA.objs (pre : Sto) (s : BagA) : Sto := pre ++ [.lst (s.great.map .int), .lst (s.rems.map .int), .lst [.int s.cur, .int s.cnt, .loc pre.length, .loc (pre.length + 1)]]
structure BagA.Ok (s : BagA) : Prop where
  great : ∀ z ∈ s.great, 0 ≤ z
  rems : ∀ z ∈ s.rems, sml z
  ne : s.rems ≠ []
  cur : 0 ≤ s.cur
  cnt : 0 ≤ s.cnt
@[simp] theorem objsA_len (pre : Sto) (s : BagA) : (s.objs pre).length = pre.length + 3 := by simp [BagA.objs]
theorem objsA_get (pre : Sto) (s : BagA) (g : Sto) (k : Nat) : (s.objs pre ++ g)[pre.length + 3 + k]? = g[k]? := by
  rw [List.getElem?_append_right (by simp)]
  simp
@[simp] theorem objsA_end (pre : Sto) (s : BagA) (g : Sto) (o : O) (t : Sto) : (s.objs pre ++ (g ++ o :: t))[pre.length + 3 + g.length]? = some o := by
  rw [objsA_get]; simp
/-- a draw -/
theorem drawA_ok {P : Str → Option FD} (hP : P "_law_draw" = some ⟨2, 5, drawA⟩) {n : Nat} {pre : Sto} {s : BagA} {m : Int} {g : Sto} (h : s.Ok) (hc : s.cnt < 1000000000000) (m0 : 0 < m) (m1 : m < 115792089237316195423570985008687907853269984665640564039457584007913129639936) :
    ∃ r s', call P (n + 1) "_law_draw" [.loc (pre.length + 2), .int m] (s.objs pre ++ g) = ok (.int r) (BagA.objs pre s' ++ g) ∧ s'.Ok ∧ s'.cnt = s.cnt + 1 ∧ 0 ≤ r ∧ r < m := by
  rw [call_at hP rfl]
  have hcn := h.cnt
  have hct : sml (s.cnt + 1) := sml_lit (by omega) (by omega)
  obtain ⟨tl, htl⟩ : ∃ tl, tl = drawA.drop 2 := ⟨_, rfl⟩
  have tail : ∀ s1 : BagA, s1.Ok → s1.cnt = s.cnt + 1 → ∃ r s', exs (call P n) tl [some (.loc (pre.length + 2)), some (.int m), none, none, none] (s1.objs pre ++ g) = ok (.rt (.int r)) (BagA.objs pre s' ++ g) ∧ s'.Ok ∧ s'.cnt = s.cnt + 1 ∧ 0 ≤ r ∧ r < m := by
    intro s1 h1 hc1
    rw [htl]
    unfold drawA
    simp [BagA.objs, get_plus, set_plus, get_zero', set_zero']
    by_cases c : 0 < s1.cur
    · simp [c, m0, div_big m0 m1, get_plus, set_plus, get_zero', set_zero']
      exact ⟨s1.cur % m, { s1 with cur := s1.cur / m }, by simp, ⟨h1.great, h1.rems, h1.ne, Int.ediv_nonneg h1.cur (by omega), h1.cnt⟩, hc1, Int.emod_nonneg _ (by omega), Int.emod_lt_of_pos _ m0⟩
    · have hl : 0 < s1.rems.length := List.length_pos_iff.2 h1.ne
      obtain ⟨z, hz, ez⟩ := atI_ints (zs := s1.rems) (i := s1.cnt % s1.rems.length) (Int.emod_nonneg _ (by omega)) (Int.emod_lt_of_pos _ (by omega))
      have sz := h1.rems z hz
      have ne := h1.ne
      have hct1 : sml s1.cnt := by rw [hc1]; exact hct
      simp [c, ne, get_plus, set_plus, get_zero', set_zero', ez, mul_sml, sz, hct1, m0, hl]
      exact ⟨_, s1, ⟨rfl, by simp⟩, h1, hc1, Int.emod_nonneg _ (by omega), Int.emod_lt_of_pos _ m0⟩
  rw [show drawA = drawA[0] :: drawA[1] :: drawA.drop 2 from rfl, ← htl]
  unfold drawA
  simp [BagA.objs, get_plus, set_plus, get_zero', set_zero']
  by_cases c : s.cur = 0 ∧ s.great ≠ []
  · obtain ⟨c1, c2⟩ := c
    have hl : 0 < s.great.length := List.length_pos_iff.2 c2
    obtain ⟨y, hy⟩ : ∃ y, s.great[s.great.length - 1]? = some y := ⟨s.great[s.great.length - 1], List.getElem?_eq_getElem (by omega)⟩
    have ym : y ∈ s.great := List.mem_of_getElem? hy
    obtain ⟨r, s', e1, e2⟩ := tail ⟨s.great.dropLast, s.rems, y, s.cnt + 1⟩ ⟨fun z hz => h.great z ((List.dropLast_sublist _).subset hz), h.rems, h.ne, h.great y ym, by show 0 ≤ s.cnt + 1; omega⟩ rfl
    simp [BagA.objs] at e1
    simp [c1, hl, get_plus, set_plus, get_zero', set_zero', hy, isLst, e1]
    exact ⟨r, s', ⟨rfl, by simp⟩, e2⟩
  · obtain ⟨r, s', e1, e2⟩ := tail { s with cnt := s.cnt + 1 } ⟨h.great, h.rems, h.ne, h.cur, by show 0 ≤ s.cnt + 1; omega⟩ rfl
    simp [BagA.objs] at e1
    by_cases c1 : s.cur = 0
    · have c2 : s.great = [] := by simpa [c1] using c
      simp [c1, c2] at e1 ⊢
      simp [e1]
      exact ⟨r, s', ⟨rfl, by simp⟩, e2⟩
    · simp [c1, e1]
      exact ⟨r, s', ⟨rfl, by simp⟩, e2⟩

theorem drawA_run {P : Str → Option FD} (hP : P "_law_draw" = some ⟨2, 5, drawA⟩) {n : Nat} {pre : Sto} {s : BagA} {m : Int} {g : Sto} (h : s.Ok) (hc : s.cnt < 1000000000000) (m0 : 0 < m) (m1 : m < 115792089237316195423570985008687907853269984665640564039457584007913129639936) :
    Run (call P (n + 1) "_law_draw" [.loc (pre.length + 2), .int m] (s.objs pre ++ g)) fun d st => ∃ r s', d = .int r ∧ st = BagA.objs pre s' ++ g ∧ s'.Ok ∧ s'.cnt = s.cnt + 1 ∧ 0 ≤ r ∧ r < m := by
  obtain ⟨r, s', e, h⟩ := drawA_ok hP (n := n) (g := g) (pre := pre) h hc m0 m1
  exact ⟨_, _, e, r, s', rfl, rfl, h⟩
theorem bagA_ok {P : Str → Option FD} (hP : P "_law_bag" = some ⟨1, 4, bagA⟩) {n : Nat} {ns : List Int} (hl : ns.length ≤ 63) :
    ∃ pre s, call P (n + 1) "_law_bag" [.rol (ns.map .int)] [] = ok (.loc (pre.length + 2)) (BagA.objs pre s) ∧ s.Ok ∧ s.cnt = 0 := by
  rw [call_at hP rfl]
  unfold bagA
  obtain ⟨as, has⟩ : ∃ as : List Int, as = ns.map fun z => if z < 0 then -z else z := ⟨_, rfl⟩
  have hal : as.length = ns.length := by rw [has]; simp
  have a0 : ∀ z ∈ as ++ [7], 0 ≤ z := by
    intro z hz
    rcases List.mem_append.1 hz with hz | hz
    · rw [has] at hz
      obtain ⟨y, _, rfl⟩ := List.mem_map.1 hz
      split <;> omega
    · simp at hz; omega
  have e1 : ∀ C st, compL [] (.v 3) (wipe [some (.rol (ns.map D.int)), none, none, none] [3]) (turn C (.bi .abs [.bi .int [.v 3]]) []) (ns.map D.int) [] st = ok (as.map D.int) st := by
    intro C st
    rw [comp_map (h := fun d => match d with | .int z => .int (if z < 0 then -z else z) | d => d) (held_nil st) (by simp [LINE]; omega)]
    · rw [has]; simp
    · intro d hd
      obtain ⟨z, _, rfl⟩ := List.mem_map.1 hd
      simp [wipe]
  have e2 : ∀ C st σ, held [(2, .lst ((as ++ [7]).map D.int))] st → compL [(2, .lst ((as ++ [7]).map D.int))] (.v 3) (wipe [σ, some (.loc 2), some (.loc 3), none] [3]) (turn C (.bin .FloorDiv (.v 3) (.int 2)) [(.cmp .GtE (.v 3) (.bin .Pow (.int 10) (.int 18)))]) ((as ++ [7]).map D.int) [] st = ok ((((as ++ [7]).filter fun z => decide (1000000000000000000 ≤ z)).map fun z => z / 2).map D.int) st := by
    intro C st σ hh
    rw [comp_filter (p := fun d => match d with | .int z => decide (1000000000000000000 ≤ z) | d => false) (h := fun d => match d with | .int z => .int (z / 2) | d => d) hh _ _ (by simp [LINE]; omega)]
    · rw [List.filter_map]; simp [Function.comp_def]
    · intro d hd
      obtain ⟨z, _, rfl⟩ := List.mem_map.1 hd
      simp [wipe]
      by_cases q : (1000000000000000000 : Int) ≤ z <;> simp [q]
  have e3 : ∀ C st σ a b, held [(2, .lst ((as ++ [7]).map D.int))] st → compL [(2, .lst ((as ++ [7]).map D.int))] (.v 3) (wipe [σ, a, b, none] [3]) (turn C (.bin .Mod (.bi .int [.v 3]) (.int 2147483647)) []) ((as ++ [7]).map D.int) [] st = ok ((((as ++ [7]).map fun z => z % 2147483647)).map D.int) st := by
    intro C st σ a b hh
    rw [comp_map (h := fun d => match d with | .int z => .int (z % 2147483647) | d => d) hh (by simp [LINE]; omega)]
    · simp
    · intro d hd
      obtain ⟨z, _, rfl⟩ := List.mem_map.1 hd
      simp [wipe]
  have hlen : (as ++ [7]).length ≤ 64 := by simp; omega
  have ec : (as.map D.int) ++ [.int 7] = ((as ++ [7]).map D.int) := by simp
  obtain ⟨c, cs, hc⟩ : ∃ c cs, as ++ [7] = c :: cs := by
    cases as with
    | nil => exact ⟨_, _, rfl⟩
    | cons a b => exact ⟨_, _, rfl⟩
  rw [hc] at e2 e3 ec hlen a0
  obtain ⟨gs, hgs⟩ : ∃ gs : List Int, gs = (((c :: cs).filter fun z => decide (1000000000000000000 ≤ z)).map fun z => z / 2) := ⟨_, rfl⟩
  obtain ⟨rs, hrs⟩ : ∃ rs : List Int, rs = ((c :: cs).map fun z => z % 2147483647) := ⟨_, rfl⟩
  rw [← hgs] at e2
  rw [← hrs] at e3
  have gn : ∀ z ∈ gs, 0 ≤ z := by
    intro z hz
    rw [hgs] at hz
    obtain ⟨y, hy, rfl⟩ := List.mem_map.1 hz
    exact Int.ediv_nonneg (a0 y (List.mem_filter.1 hy).1) (by omega)
  have rn : ∀ z ∈ rs, sml z := by
    intro z hz
    rw [hrs] at hz
    obtain ⟨y, hy, rfl⟩ := List.mem_map.1 hz
    simp
  have re : rs ≠ [] := by rw [hrs]; simp
  simp only [List.map_cons] at e2 e3 ec
  have hL : as.length + 1 ≤ LINE := by unfold LINE; omega
  simp [e1, ec, hL]
  by_cases c0 : c % 2 = 0
  · have e2' := e2 (call P n) [O.lst (List.map D.int as), O.lst [D.int 7], O.lst (D.int c :: List.map D.int cs), O.lst []] (some (D.rol (List.map D.int ns))) (by intro p hp; rw [List.mem_singleton.1 hp]; rfl)
    have e3' := fun a => e3 (call P n) [O.lst (List.map D.int as), O.lst [D.int 7], O.lst (D.int c :: List.map D.int cs), O.lst [], O.lst (List.map D.int gs).reverse] (some (D.rol (List.map D.int ns))) (some (.loc 2)) a (by intro p hp; rw [List.mem_singleton.1 hp]; rfl)
    simp [c0, e2', e3', isLst]
    exact ⟨[.lst (as.map .int), .lst [.int 7], .lst (.int c :: cs.map .int), .lst []], ⟨gs.reverse, rs, 0, 0⟩, by simp [BagA.objs], ⟨fun z hz => gn z (List.mem_reverse.1 hz), rn, re, by simp, by simp⟩, rfl⟩
  · have e3' := fun a => e3 (call P n) [O.lst (List.map D.int as), O.lst [D.int 7], O.lst (D.int c :: List.map D.int cs), O.lst []] (some (D.rol (List.map D.int ns))) (some (.loc 2)) a (by intro p hp; rw [List.mem_singleton.1 hp]; rfl)
    simp [c0, e3']
    exact ⟨[.lst (as.map .int), .lst [.int 7], .lst (.int c :: cs.map .int)], ⟨[], rs, 0, 0⟩, by simp [BagA.objs], ⟨by simp, rn, re, by simp, by simp⟩, rfl⟩

/-- a pick from a list behind the bag -/
theorem pickA_run {P : Str → Option FD} (hD : P "_law_draw" = some ⟨2, 5, drawA⟩) (hP : P "_law_pick" = some ⟨2, 2, pickA⟩) {n : Nat} {pre : Sto} {s : BagA} {xs : List D} {g : Sto} (h : s.Ok) (hc : s.cnt < 1000000000000) (h0 : xs ≠ []) (h1 : xs.length < 18446744073709551616) :
    Run (call P (n + 2) "_law_pick" [.loc (pre.length + 2), .loc (pre.length + 3 + g.length)] (s.objs pre ++ (g ++ [.lst xs]))) fun d st => ∃ s', d ∈ xs ∧ st = BagA.objs pre s' ++ (g ++ [.lst xs]) ∧ s'.Ok ∧ s'.cnt = s.cnt + 1 := by
  refine Run_call hP rfl ?_
  unfold pickA
  have hl := List.length_pos_iff.2 h0
  simp
  refine Run_bnd (drawA_run hD h hc (by omega) (by omega)) ?_
  rintro _ _ ⟨r, s', rfl, rfl, ho, hc', r0, r1⟩
  have e : atI xs r = some (xs[r.toNat]'(by omega)) := by rw [atI_nn r0]; exact List.getElem?_eq_getElem (by omega)
  simp [e]
  exact ⟨s', rfl, ho, hc'⟩
/-- the same from a tuple or a list that is only read -/
theorem pickA_tup {P : Str → Option FD} (hD : P "_law_draw" = some ⟨2, 5, drawA⟩) (hP : P "_law_pick" = some ⟨2, 2, pickA⟩) {n : Nat} {pre : Sto} {s : BagA} {xs : List D} {g : Sto} (h : s.Ok) (hc : s.cnt < 1000000000000) (h0 : xs ≠ []) (h1 : xs.length < 18446744073709551616) :
    Run (call P (n + 2) "_law_pick" [.loc (pre.length + 2), .tup xs] (s.objs pre ++ g)) fun d st => ∃ s', d ∈ xs ∧ st = BagA.objs pre s' ++ g ∧ s'.Ok ∧ s'.cnt = s.cnt + 1 := by
  refine Run_call hP rfl ?_
  unfold pickA
  have hl := List.length_pos_iff.2 h0
  simp
  refine Run_bnd (drawA_run hD h hc (by omega) (by omega)) ?_
  rintro _ _ ⟨r, s', rfl, rfl, ho, hc', r0, r1⟩
  have e : atI xs r = some (xs[r.toNat]'(by omega)) := by rw [atI_nn r0]; exact List.getElem?_eq_getElem (by omega)
  simp [e]
  exact ⟨s', rfl, ho, hc'⟩

theorem sameA_ok {P : Str → Option FD} (hP : P "_law_same" = some ⟨2, 3, sameA⟩) : ∀ (k n : Nat) (d : D) (st : Sto), sam k d = true → call P (n + k + 1) "_law_same" [d, d] st = ok (.bl true) st := by
  have flat : ∀ (n : Nat) (d : D) (st : Sto), (∀ ds, d ≠ .tup ds) → (∀ m, d ≠ .loc m) → (∀ m, d ≠ .rol m) → call P (n + 1) "_law_same" [d, d] st = ok (.bl true) st := by
    intro n d st h1 h2 h3
    rw [call_at hP rfl]
    unfold sameA
    cases d with
    | tup ds => exact (h1 _ rfl).elim
    | loc m => exact (h2 _ rfl).elim
    | rol ds => exact (h3 _ rfl).elim
    | non => simp [isop, isTy, isNon]
    | bl b => simp [isop, isTy, isNon]
    | int b => simp [isop, isTy, isNon]
    | str b => simp [isop, isTy, isNon]
  intro k
  induction k with
  | zero =>
    intro n d st h
    refine flat (n + 0) d st ?_ ?_ ?_ <;> (intro x e; subst e; cases h)
  | succ k ih =>
    intro n d st h
    cases d with
    | loc m => cases h
    | rol ds => cases h
    | non => exact flat (n + (k + 1)) _ st (by intro _ e; cases e) (by intro _ e; cases e) (by intro _ e; cases e)
    | bl b => exact flat (n + (k + 1)) _ st (by intro _ e; cases e) (by intro _ e; cases e) (by intro _ e; cases e)
    | int b => exact flat (n + (k + 1)) _ st (by intro _ e; cases e) (by intro _ e; cases e) (by intro _ e; cases e)
    | str b => exact flat (n + (k + 1)) _ st (by intro _ e; cases e) (by intro _ e; cases e) (by intro _ e; cases e)
    | tup ds =>
      rw [call_at hP rfl]
      unfold sameA
      simp only [sam_tup, Bool.and_eq_true, decide_eq_true_eq, LINE] at h
      obtain ⟨h1, h2⟩ := h
      have h1 := of_decide_eq_true h1
      rw [sams_all] at h2
      simp [isop, isTy, isNon]
      rw [items_rng1 (by omega)]
      simp
      have lp : ∀ Q : Fl → Sto → Prop, (∀ x, Q (.nx [some (.tup ds), some (.tup ds), x]) st) → Run (forL [] (.v 2) (exs (call P (n + (k + 1))) [
      .ife (.not (.tru (.call "_law_same" [(.ix (.v 0) (.v 2)), (.ix (.v 1) (.v 2))] []))) [
        .ret (.bl false)] []]) (rangeL 0 ds.length) [some (.tup ds), some (.tup ds), none] st) Q := by
        intro Q hQ
        refine Run_rng (fun i σ s => s = st ∧ ∃ x, σ = [some (.tup ds), some (.tup ds), x]) ⟨rfl, _, rfl⟩ ?_ ?_
        · rintro i σ s hi ⟨rfl, x, rfl⟩
          have q := ih n ds[i] s (h2 _ (List.getElem_mem hi))
          have e : atI ds (i : Int) = some ds[i] := by rw [atI_nn (by omega)]; simp [hi]
          rw [Nat.add_assoc] at q
          simp [e, q]
        · rintro σ s ⟨rfl, x, rfl⟩
          exact hQ _
      obtain ⟨f, s, e, x, rfl, rfl⟩ := lp (fun f s => ∃ x, f = .nx [some (.tup ds), some (.tup ds), x] ∧ s = st) fun x => ⟨x, rfl, rfl⟩
      simp [e]
end MP

set_option Elab.async false
set_option linter.all false
set_option maxRecDepth 100000
set_option maxHeartbeats 4000000
/-! fractions -/
namespace MP
open PySem (Str Operator CmpOp)
open PySem
def fracL : List S := [
  .asg (.v 2) (.bi .gcd [(.v 0), (.v 1)]),
  .ife (.cmp .Lt (.v 1) (.int 0)) [
    .asg (.v 2) (.neg (.v 2))] [],
  .ret (.tup [(.bin .FloorDiv (.v 0) (.v 2)), (.bin .FloorDiv (.v 1) (.v 2))])]
def wholeL : List S := [
  .ret (.tup [(.v 0), (.int 1)])]
def plusL : List S := [
  .ret (.call "frac" [(.bin .Add (.bin .Mult (.ix (.v 0) (.int 0)) (.ix (.v 1) (.int 1))) (.bin .Mult (.ix (.v 1) (.int 0)) (.ix (.v 0) (.int 1)))), (.bin .Mult (.ix (.v 0) (.int 1)) (.ix (.v 1) (.int 1)))] [])]
def timesL : List S := [
  .ret (.call "frac" [(.bin .Mult (.ix (.v 0) (.int 0)) (.ix (.v 1) (.int 0))), (.bin .Mult (.ix (.v 0) (.int 1)) (.ix (.v 1) (.int 1)))] [])]
def turnedL : List S := [
  .ret (.tup [(.neg (.ix (.v 0) (.int 0))), (.ix (.v 0) (.int 1))])]
def totalL : List S := [
  .asg (.tup [(.v 1), (.v 2)]) (.tup [(.int 0), (.int 1)]),
  .for_ (.v 3) .seq [(.v 0)] [
    .par [1, 2] [(.bin .Add (.bin .Mult (.v 1) (.ix (.v 3) (.int 1))) (.bin .Mult (.ix (.v 3) (.int 0)) (.v 2))), (.bin .Mult (.v 2) (.ix (.v 3) (.int 1)))],
    .ife (.cmp .Gt (.v 2) (.bin .LShift (.int 1) (.int 400))) [
      .asg (.tup [(.v 1), (.v 2)]) (.call "frac" [(.v 1), (.v 2)] [])] []],
  .ret (.call "frac" [(.v 1), (.v 2)] [])]
def prodsumL : List S := [
  .ret (.call "total_of" [(.comp (.call "times" [(.ix (.v 0) (.v 2)), (.ix (.v 1) (.v 2))] []) (.v 2) .rng1 [(.bi .len [(.v 0)])] [] [2])] [])]
def chooseL : List S := [
  .asg (.v 2) (.int 1),
  .for_ (.v 3) .rng1 [(.v 1)] [
    .asg (.v 2) (.bin .FloorDiv (.bin .Mult (.v 2) (.bin .Sub (.v 0) (.v 3))) (.bin .Add (.v 3) (.int 1)))],
  .ret (.v 2)]
def lgcdL : List S := [
  .par [0, 1] [(.bi .abs [(.v 0)]), (.bi .abs [(.v 1)])],
  .whl (.cmp .NotEq (.v 1) (.int 0)) [
    .par [0, 1] [(.v 1), (.bin .Mod (.bi .int [(.v 0)]) (.v 1))]],
  .ret (.v 0)]
def lfrL : List S := [
  .asg (.v 2) (.call "_law_gcd" [(.v 0), (.v 1)] []),
  .ret (.tup [(.bin .FloorDiv (.v 0) (.v 2)), (.bin .FloorDiv (.v 1) (.v 2))])]
def lplusL : List S := [
  .ret (.call "_law_fr" [(.bin .Add (.bin .Mult (.ix (.v 0) (.int 0)) (.ix (.v 1) (.int 1))) (.bin .Mult (.ix (.v 1) (.int 0)) (.ix (.v 0) (.int 1)))), (.bin .Mult (.ix (.v 0) (.int 1)) (.ix (.v 1) (.int 1)))] [])]
def ltimesL : List S := [
  .ret (.call "_law_fr" [(.bin .Mult (.ix (.v 0) (.int 0)) (.ix (.v 1) (.int 0))), (.bin .Mult (.ix (.v 0) (.int 1)) (.ix (.v 1) (.int 1)))] [])]
def lminusL : List S := [
  .ret (.call "_law_plus" [(.v 0), (.tup [(.neg (.ix (.v 1) (.int 0))), (.ix (.v 1) (.int 1))])] [])]
def ltenL : List S := [
  .asg (.v 1) (.int 1),
  .for_ (.v 2) .rng1 [(.v 0)] [
    .asg (.v 1) (.bin .Mult (.v 1) (.int 10))],
  .ret (.v 1)]
def lchooseL : List S := [
  .ife (.cmp .Lt (.v 0) (.int 0)) [
    .ret (.bin .Mult (.call "_law_choose" [(.bin .Sub (.bin .Sub (.v 1) (.v 0)) (.int 1)), (.v 1)] []) (.ife (.cmp .Eq (.bin .Mod (.bi .int [(.v 1)]) (.int 2)) (.int 1)) (.neg (.int 1)) (.int 1)))] [],
  .asg (.v 2) (.int 1),
  .for_ (.v 3) .rng1 [(.v 1)] [
    .asg (.v 2) (.bin .FloorDiv (.bin .Mult (.v 2) (.bin .Sub (.v 0) (.v 3))) (.bin .Add (.v 3) (.int 1)))],
  .ret (.v 2)]

def F (q : Rat) : D := .tup [.int q.num, .int (q.den : Int)]
def Fit (q : Rat) : Prop := q.num.natAbs.log2 < 60000000 ∧ q.den.log2 < 4000
theorem lt_two_log (n : Nat) : n < 2 ^ (n.log2 + 1) := Nat.lt_log2_self
theorem log2_le_of_lt {n k : Nat} (h : n < 2 ^ (k + 1)) : n.log2 ≤ k := by
  by_cases e : n = 0
  · subst e; exact Nat.zero_le _
  · exact Nat.lt_succ_iff.1 ((Nat.log2_lt e).2 h)
theorem log2_mul_le (a b : Nat) : (a * b).log2 ≤ a.log2 + b.log2 + 1 := by
  refine log2_le_of_lt ?_
  have h1 := lt_two_log a
  have h2 := lt_two_log b
  have : a * b < 2 ^ (a.log2 + 1) * 2 ^ (b.log2 + 1) := Nat.mul_lt_mul'' h1 h2
  rw [← Nat.pow_add] at this
  exact Nat.lt_of_lt_of_le this (Nat.pow_le_pow_right (by decide) (by omega))
theorem log2_add_le (a b : Nat) : (a + b).log2 ≤ max a.log2 b.log2 + 1 := by
  refine log2_le_of_lt ?_
  have h1 := lt_two_log a
  have h2 := lt_two_log b
  have h3 : 2 ^ (a.log2 + 1) ≤ 2 ^ (max a.log2 b.log2 + 1) := Nat.pow_le_pow_right (by decide) (by omega)
  have h4 : 2 ^ (b.log2 + 1) ≤ 2 ^ (max a.log2 b.log2 + 1) := Nat.pow_le_pow_right (by decide) (by omega)
  rw [Nat.pow_succ 2 (max a.log2 b.log2 + 1)]
  omega
theorem mul_log {i j : Int} {st : Sto} (h : i.natAbs.log2 + j.natAbs.log2 < 134217000) : binop .Mult (.int i) (.int j) st = ok (.int (i * j)) st := if_pos h
theorem fdiv_log {i j : Int} {st : Sto} (h : j ≠ 0) (h2 : j.natAbs.log2 < 8999) : binop .FloorDiv (.int i) (.int j) st = ok (.int (i.fdiv j)) st := if_pos ⟨h, h2⟩
@[simp] theorem getD_F (q : Rat) (n : Nat) : D.blw n (F q) = true := by simp [F]
@[simp] theorem sam_F (k : Nat) (q : Rat) : sam (k + 1) (F q) = true := by simp [F, LINE]
@[simp] theorem shp_F (k : Nat) (q : Rat) : shp (k + 1) (F q) = true := by simp [F]
theorem F_inj {p q : Rat} (h : F p = F q) : p = q := by
  simp [F] at h
  exact Rat.ext h.1 (by have := h.2; omega)
@[simp] theorem eqD_F (p q : Rat) : eqD (F p) (F q) = decide (p = q) := by
  simp only [F, eqD_tt, eqDs_cc, eqD_ii, eqDs_nn, Bool.and_true]
  by_cases h : p = q
  · subst h; simp
  · simp only [h, decide_false]
    rw [Bool.and_eq_false_iff]
    by_cases h1 : p.num = q.num
    · right
      rw [beq_eq_false_iff_ne]
      intro h2
      exact h (Rat.ext h1 (by exact_mod_cast h2))
    · left; exact beq_eq_false_iff_ne.2 h1
theorem den_pos (q : Rat) : 0 < q.den := Nat.pos_of_ne_zero q.den_nz
theorem den_ne (q : Rat) : (q.den : Int) ≠ 0 := by have := den_pos q; omega

variable {P : Str → Option FD}
theorem frac_eq (hP : P "frac" = some ⟨2, 3, fracL⟩) {n : Nat} {a b : Int} {st : Sto} (h : b ≠ 0) (hb : b.natAbs.log2 < 8999) : call P (n + 1) "frac" [.int a, .int b] st = ok (F (Rat.divInt a b)) st := by
  rw [call_at hP rfl]
  unfold fracL
  have g0 : 0 < Int.gcd a b := Int.gcd_pos_of_ne_zero_right a h
  have gl : (Int.gcd a b).log2 < 8999 := Nat.lt_of_le_of_lt (log2_mono (Nat.le_of_dvd (by omega) (Nat.gcd_dvd_right _ _))) hb
  have da : (Int.gcd a b : Int) ∣ a := Int.gcd_dvd_left ..
  have db : (Int.gcd a b : Int) ∣ b := Int.gcd_dvd_right ..
  have fa := Int.fdiv_eq_ediv_of_dvd da
  have fb := Int.fdiv_eq_ediv_of_dvd db
  have gc : Int.gcd b a = Int.gcd a b := Int.gcd_comm b a
  have fn : F (Rat.divInt a b) = .tup [.int (b.sign * a / (Int.gcd a b : Int)), .int ((b.natAbs / Int.gcd a b : Nat) : Int)] := by
    unfold F
    rw [Rat.num_divInt, Rat.den_divInt, if_neg h, gc]
  rw [fn]
  by_cases hn : b < 0
  · have s : b.sign = -1 := Int.sign_eq_neg_one_of_neg hn
    have e1 : a.fdiv (-(Int.gcd a b : Int)) = b.sign * a / (Int.gcd a b : Int) := by
      rw [Int.fdiv_eq_ediv_of_dvd (Int.neg_dvd.2 da), Int.ediv_neg, s, Int.neg_one_mul, Int.neg_ediv_of_dvd da]
    have e2 : b.fdiv (-(Int.gcd a b : Int)) = ((b.natAbs / Int.gcd a b : Nat) : Int) := by
      rw [Int.fdiv_eq_ediv_of_dvd (Int.neg_dvd.2 db), Int.ediv_neg, ← Int.neg_ediv_of_dvd db, Int.natCast_ediv, show (b.natAbs : Int) = -b by omega]
    simp [hn, fdiv_log, gl, Nat.pos_iff_ne_zero.1 g0, e1, e2, h]
  · have s : b.sign = 1 := Int.sign_eq_one_of_pos (by omega)
    have e1 : a.fdiv (Int.gcd a b : Int) = b.sign * a / (Int.gcd a b : Int) := by
      rw [fa, s, Int.one_mul]
    have e2 : b.fdiv (Int.gcd a b : Int) = ((b.natAbs / Int.gcd a b : Nat) : Int) := by
      rw [fb, Int.natCast_ediv, show (b.natAbs : Int) = b by omega]
    simp [hn, fdiv_log, gl, Nat.pos_iff_ne_zero.1 g0, e1, e2, h]

@[simp] theorem F_int (a : Int) : F (a : Rat) = .tup [.int a, .int 1] := by simp [F]
theorem F_neg (q : Rat) : F (-q) = .tup [.int (-q.num), .int (q.den : Int)] := by simp [F]
theorem whole_eq (hP : P "whole" = some ⟨1, 1, wholeL⟩) {n : Nat} {a : Int} {st : Sto} : call P (n + 1) "whole" [.int a] st = ok (F (a : Rat)) st := by
  rw [call_at hP rfl]
  unfold wholeL
  simp
theorem turned_eq (hP : P "turned" = some ⟨1, 1, turnedL⟩) {n : Nat} {q : Rat} {st : Sto} : call P (n + 1) "turned" [F q] st = ok (F (-q)) st := by
  rw [call_at hP rfl, F_neg]
  unfold turnedL F
  simp
theorem natAbs_den (q : Rat) : ((q.den : Int)).natAbs = q.den := by simp
theorem below_ne (p q : Rat) : (p.den : Int) * (q.den : Int) ≠ 0 := Int.mul_ne_zero (den_ne p) (den_ne q)
theorem below_log {p q : Rat} (hp : Fit p) (hq : Fit q) : ((p.den : Int) * (q.den : Int)).natAbs.log2 < 8999 := by
  rw [Int.natAbs_mul, natAbs_den, natAbs_den]
  have := log2_mul_le p.den q.den
  have := hp.2
  have := hq.2
  omega
theorem plus_eq (hF : P "frac" = some ⟨2, 3, fracL⟩) (hP : P "plus" = some ⟨2, 2, plusL⟩) {n : Nat} {p q : Rat} {st : Sto} (hp : Fit p) (hq : Fit q) : call P (n + 2) "plus" [F p, F q] st = ok (F (p + q)) st := by
  rw [call_at hP rfl]
  unfold plusL
  have h1 := hp.1
  have h2 := hp.2
  have h3 := hq.1
  have h4 := hq.2
  have e : p + q = Rat.divInt (p.num * (q.den : Int) + q.num * (p.den : Int)) ((p.den : Int) * (q.den : Int)) := by
    rw [← Rat.divInt_add_divInt _ _ (den_ne p) (den_ne q), Rat.num_divInt_den, Rat.num_divInt_den]
  have m1 : ∀ st : Sto, binop .Mult (.int p.num) (.int (q.den : Int)) st = ok (.int (p.num * (q.den : Int))) st := fun st => mul_log (by rw [natAbs_den]; omega)
  have m2 : ∀ st : Sto, binop .Mult (.int q.num) (.int (p.den : Int)) st = ok (.int (q.num * (p.den : Int))) st := fun st => mul_log (by rw [natAbs_den]; omega)
  have m3 : ∀ st : Sto, binop .Mult (.int (p.den : Int)) (.int (q.den : Int)) st = ok (.int ((p.den : Int) * (q.den : Int))) st := fun st => mul_log (by rw [natAbs_den, natAbs_den]; omega)
  have fe := frac_eq hF (n := n) (a := p.num * (q.den : Int) + q.num * (p.den : Int)) (b := (p.den : Int) * (q.den : Int)) (st := st) (below_ne p q) (below_log hp hq)
  rw [e]
  simp [F, m1, m2, m3] at fe ⊢
  simp [fe]
theorem times_eq (hF : P "frac" = some ⟨2, 3, fracL⟩) (hP : P "times" = some ⟨2, 2, timesL⟩) {n : Nat} {p q : Rat} {st : Sto} (hp : Fit p) (hq : Fit q) : call P (n + 2) "times" [F p, F q] st = ok (F (p * q)) st := by
  rw [call_at hP rfl]
  unfold timesL
  have h1 := hp.1
  have h2 := hp.2
  have h3 := hq.1
  have h4 := hq.2
  have e : p * q = Rat.divInt (p.num * q.num) ((p.den : Int) * (q.den : Int)) := by
    rw [← Rat.divInt_mul_divInt, Rat.num_divInt_den, Rat.num_divInt_den]
  have m1 : ∀ st : Sto, binop .Mult (.int p.num) (.int q.num) st = ok (.int (p.num * q.num)) st := fun st => mul_log (by omega)
  have m3 : ∀ st : Sto, binop .Mult (.int (p.den : Int)) (.int (q.den : Int)) st = ok (.int ((p.den : Int) * (q.den : Int))) st := fun st => mul_log (by rw [natAbs_den, natAbs_den]; omega)
  have fe := frac_eq hF (n := n) (a := p.num * q.num) (b := (p.den : Int) * (q.den : Int)) (st := st) (below_ne p q) (below_log hp hq)
  rw [e]
  simp [F, m1, m3] at fe ⊢
  simp [fe]

/-! ### while -/
theorem whl_true {c : Env → Sto → R D} {b : Env → Sto → R Fl} {σ σ2 : Env} {st st1 st2 : Sto} (h : c σ st = some (.ok (.bl true), st1)) (h2 : b σ st1 = some (.ok (.nx σ2), st2)) : whl c b σ st = whl c b σ2 st2 := by
  rw [whl]
  unfold whlS
  rw [h]
  simp only [h2]
  rfl
theorem whl_false {c : Env → Sto → R D} {b : Env → Sto → R Fl} {σ : Env} {st st1 : Sto} (h : c σ st = some (.ok (.bl false), st1)) : whl c b σ st = ok (.nx σ) st1 := by
  rw [whl]
  unfold whlS
  rw [h]
  rfl

/-! ### the laws' own fractions -/
theorem lgcd_eq (hP : P "_law_gcd" = some ⟨2, 2, lgcdL⟩) {n : Nat} {a b : Int} {st : Sto} : call P (n + 1) "_law_gcd" [.int a, .int b] st = ok (.int (Int.gcd a b : Nat)) st := by
  have loop : ∀ (k x y : Nat), y ≤ k → whl (ev (call P n) (.cmp .NotEq (.v 1) (.int 0))) (exs (call P n) [.par [0, 1] [(.v 1), (.bin .Mod (.bi .int [(.v 0)]) (.v 1))]]) [some (.int (x : Int)), some (.int (y : Int))] st = ok (.nx [some (.int (Nat.gcd x y : Nat)), some (.int 0)]) st := by
    intro k
    induction k with
    | zero =>
      intro x y hy
      have : y = 0 := by omega
      subst this
      rw [whl_false (st1 := st) (by simp)]
      simp
    | succ k ih =>
      intro x y hy
      by_cases e : y = 0
      · subst e
        rw [whl_false (st1 := st) (by simp)]
        simp
      · have y0 : (0 : Int) < (y : Int) := by omega
        rw [whl_true (st1 := st) (st2 := st) (σ2 := [some (.int (y : Int)), some (.int ((x % y : Nat) : Int))]) (by simp [e]) (by simp [mod_pos y0, setAll])]
        have := Nat.mod_lt x (show y > 0 by omega)
        rw [ih y (x % y) (by omega), Nat.gcd_comm x y, Nat.gcd_rec y x, Nat.gcd_comm]
  rw [call_at hP rfl]
  unfold lgcdL
  have ea : (if a < 0 then -a else a) = (a.natAbs : Int) := by split <;> omega
  have eb : (if b < 0 then -b else b) = (b.natAbs : Int) := by split <;> omega
  simp [setAll, ea, eb]
  rw [loop _ _ _ (Nat.le_refl _)]
  simp
  rfl
theorem lfr_eq (hG : P "_law_gcd" = some ⟨2, 2, lgcdL⟩) (hP : P "_law_fr" = some ⟨2, 3, lfrL⟩) {n : Nat} {a b : Int} {st : Sto} (h : 0 < b) (hb : b.natAbs.log2 < 8999) : call P (n + 2) "_law_fr" [.int a, .int b] st = ok (F (Rat.divInt a b)) st := by
  rw [call_at hP rfl]
  unfold lfrL
  have g0 : 0 < Int.gcd a b := Int.gcd_pos_of_ne_zero_right a (by omega)
  have gl : (Int.gcd a b).log2 < 8999 := Nat.lt_of_le_of_lt (log2_mono (Nat.le_of_dvd (by omega) (Nat.gcd_dvd_right _ _))) hb
  have da : (Int.gcd a b : Int) ∣ a := Int.gcd_dvd_left ..
  have db : (Int.gcd a b : Int) ∣ b := Int.gcd_dvd_right ..
  have s : b.sign = 1 := Int.sign_eq_one_of_pos h
  have e1 : a.fdiv (Int.gcd a b : Int) = b.sign * a / (Int.gcd a b : Int) := by
    rw [Int.fdiv_eq_ediv_of_dvd da, s, Int.one_mul]
  have e2 : b.fdiv (Int.gcd a b : Int) = ((b.natAbs / Int.gcd a b : Nat) : Int) := by
    rw [Int.fdiv_eq_ediv_of_dvd db, Int.natCast_ediv, show (b.natAbs : Int) = b by omega]
  have fn : F (Rat.divInt a b) = .tup [.int (b.sign * a / (Int.gcd a b : Int)), .int ((b.natAbs / Int.gcd a b : Nat) : Int)] := by
    unfold F
    rw [Rat.num_divInt, Rat.den_divInt, if_neg (by omega), Int.gcd_comm b a]
  rw [fn]
  simp [lgcd_eq hG, fdiv_log, gl, Nat.pos_iff_ne_zero.1 g0, e1, e2, show b ≠ 0 by omega]
theorem lplus_eq (hG : P "_law_gcd" = some ⟨2, 2, lgcdL⟩) (hF : P "_law_fr" = some ⟨2, 3, lfrL⟩) (hP : P "_law_plus" = some ⟨2, 2, lplusL⟩) {n : Nat} {p q : Rat} {st : Sto} (hp : Fit p) (hq : Fit q) : call P (n + 3) "_law_plus" [F p, F q] st = ok (F (p + q)) st := by
  rw [call_at hP rfl]
  unfold lplusL
  have h1 := hp.1
  have h2 := hp.2
  have h3 := hq.1
  have h4 := hq.2
  have e : p + q = Rat.divInt (p.num * (q.den : Int) + q.num * (p.den : Int)) ((p.den : Int) * (q.den : Int)) := by
    rw [← Rat.divInt_add_divInt _ _ (den_ne p) (den_ne q), Rat.num_divInt_den, Rat.num_divInt_den]
  have m1 : ∀ st : Sto, binop .Mult (.int p.num) (.int (q.den : Int)) st = ok (.int (p.num * (q.den : Int))) st := fun st => mul_log (by rw [natAbs_den]; omega)
  have m2 : ∀ st : Sto, binop .Mult (.int q.num) (.int (p.den : Int)) st = ok (.int (q.num * (p.den : Int))) st := fun st => mul_log (by rw [natAbs_den]; omega)
  have m3 : ∀ st : Sto, binop .Mult (.int (p.den : Int)) (.int (q.den : Int)) st = ok (.int ((p.den : Int) * (q.den : Int))) st := fun st => mul_log (by rw [natAbs_den, natAbs_den]; omega)
  have bp : (0 : Int) < (p.den : Int) * (q.den : Int) := Int.mul_pos (by have := den_pos p; omega) (by have := den_pos q; omega)
  have fe := lfr_eq hG hF (n := n) (a := p.num * (q.den : Int) + q.num * (p.den : Int)) (b := (p.den : Int) * (q.den : Int)) (st := st) bp (below_log hp hq)
  rw [e]
  simp [F, m1, m2, m3] at fe ⊢
  simp [fe]
theorem ltimes_eq (hG : P "_law_gcd" = some ⟨2, 2, lgcdL⟩) (hF : P "_law_fr" = some ⟨2, 3, lfrL⟩) (hP : P "_law_times" = some ⟨2, 2, ltimesL⟩) {n : Nat} {p q : Rat} {st : Sto} (hp : Fit p) (hq : Fit q) : call P (n + 3) "_law_times" [F p, F q] st = ok (F (p * q)) st := by
  rw [call_at hP rfl]
  unfold ltimesL
  have h1 := hp.1
  have h2 := hp.2
  have h3 := hq.1
  have h4 := hq.2
  have e : p * q = Rat.divInt (p.num * q.num) ((p.den : Int) * (q.den : Int)) := by
    rw [← Rat.divInt_mul_divInt, Rat.num_divInt_den, Rat.num_divInt_den]
  have m1 : ∀ st : Sto, binop .Mult (.int p.num) (.int q.num) st = ok (.int (p.num * q.num)) st := fun st => mul_log (by omega)
  have m3 : ∀ st : Sto, binop .Mult (.int (p.den : Int)) (.int (q.den : Int)) st = ok (.int ((p.den : Int) * (q.den : Int))) st := fun st => mul_log (by rw [natAbs_den, natAbs_den]; omega)
  have bp : (0 : Int) < (p.den : Int) * (q.den : Int) := Int.mul_pos (by have := den_pos p; omega) (by have := den_pos q; omega)
  have fe := lfr_eq hG hF (n := n) (a := p.num * q.num) (b := (p.den : Int) * (q.den : Int)) (st := st) bp (below_log hp hq)
  rw [e]
  simp [F, m1, m3] at fe ⊢
  simp [fe]
theorem fit_neg {q : Rat} (h : Fit q) : Fit (-q) := by
  unfold Fit at *
  simpa using h
theorem lminus_eq (hG : P "_law_gcd" = some ⟨2, 2, lgcdL⟩) (hF : P "_law_fr" = some ⟨2, 3, lfrL⟩) (hS : P "_law_plus" = some ⟨2, 2, lplusL⟩) (hP : P "_law_minus" = some ⟨2, 2, lminusL⟩) {n : Nat} {p q : Rat} {st : Sto} (hp : Fit p) (hq : Fit q) : call P (n + 4) "_law_minus" [F p, F q] st = ok (F (p - q)) st := by
  rw [call_at hP rfl]
  unfold lminusL
  have e := lplus_eq hG hF hS (n := n) (st := st) hp (fit_neg hq)
  rw [show p - q = p + -q from Rat.sub_eq_add_neg p q]
  rw [F_neg] at e
  simp [F] at e ⊢
  simp [e]
end MP

set_option Elab.async false
set_option linter.all false
set_option maxRecDepth 100000
set_option maxHeartbeats 4000000
/-! sums of fractions, binomial numbers, Newton's form -/
namespace MP
open PySem (Str Operator CmpOp)
open PySem

/-! ### binomial numbers of any whole number -/
def bn : Nat → Nat → Int
  | _, 0 => 1
  | 0, _ + 1 => 0
  | n + 1, j + 1 => bn n j + bn n (j + 1)
theorem bn_mul : ∀ (n j : Nat), ((j : Int) + 1) * bn n (j + 1) = bn n j * ((n : Int) - j)
  | 0, 0 => by simp [bn]
  | 0, j + 1 => by simp [bn]
  | n + 1, 0 => by
    have := bn_mul n 0
    simp [bn] at this ⊢
    rw [this]; omega
  | n + 1, j + 1 => by
    have h1 := bn_mul n (j + 1)
    have h2 := bn_mul n j
    simp only [bn] at *
    push_cast at *
    grind
def C (n : Int) (j : Nat) : Int := if 0 ≤ n then bn n.toNat j else (-1) ^ j * bn ((j : Int) - n - 1).toNat j
theorem C_zero (n : Int) : C n 0 = 1 := by
  unfold C
  split
  · simp [bn]
  · simp [bn]
theorem bn_top (N j : Nat) : ((j : Int) + 1) * bn (N + 1) (j + 1) = ((N : Int) + 1) * bn N j := by
  have := bn_mul N j
  simp only [bn]
  grind
theorem C_mul (n : Int) (j : Nat) : ((j : Int) + 1) * C n (j + 1) = C n j * (n - j) := by
  unfold C
  split
  · rename_i h
    have := bn_mul n.toNat j
    rw [show ((n.toNat : Nat) : Int) = n by omega] at this
    exact this
  · rename_i h
    obtain ⟨N, hN⟩ : ∃ N : Nat, (N : Int) = (j : Int) - n - 1 := ⟨((j : Int) - n - 1).toNat, by omega⟩
    have e1 : (((j + 1 : Nat) : Int) - n - 1).toNat = N + 1 := by omega
    have e2 : ((j : Int) - n - 1).toNat = N := by omega
    rw [e1, e2]
    have := bn_top N j
    have e3 : n - j = -((N : Int) + 1) := by omega
    rw [e3, Int.pow_succ]
    grind
theorem C_div (n : Int) (j : Nat) : C n j * (n - j) / ((j : Int) + 1) = C n (j + 1) := by
  rw [← C_mul]
  exact Int.mul_ediv_cancel_left _ (by omega)
theorem C_shift (n : Int) : ∀ j : Nat, C (n + 1) j * (n + 1 - j) = (n + 1) * C n j
  | 0 => by simp [C_zero]
  | j + 1 => by
    have ih := C_shift n j
    have h1 := C_mul (n + 1) j
    have h2 := C_mul n j
    have : ((j : Int) + 1) * (C (n + 1) (j + 1) * (n + 1 - ((j + 1 : Nat) : Int))) = ((j : Int) + 1) * ((n + 1) * C n (j + 1)) := by
      push_cast
      grind
    exact Int.eq_of_mul_eq_mul_left (by omega) this
theorem C_pascal (n : Int) (j : Nat) : C (n + 1) (j + 1) = C n j + C n (j + 1) := by
  have h1 := C_mul (n + 1) j
  have h2 := C_mul n j
  have h3 := C_shift n j
  have : ((j : Int) + 1) * C (n + 1) (j + 1) = ((j : Int) + 1) * (C n j + C n (j + 1)) := by grind
  exact Int.eq_of_mul_eq_mul_left (by omega) this
theorem C_neg {n : Int} (h : n < 0) (j : Nat) : C n j = C ((j : Int) - n - 1) j * (if j % 2 = 1 then -1 else 1) := by
  have e : C n j = (-1) ^ j * bn ((j : Int) - n - 1).toNat j := by unfold C; rw [if_neg (by omega)]
  have e2 : C ((j : Int) - n - 1) j = bn ((j : Int) - n - 1).toNat j := by unfold C; rw [if_pos (by omega)]
  rw [e, e2]
  have p : ∀ j : Nat, (-1 : Int) ^ j = if j % 2 = 1 then -1 else 1 := by
    intro j
    induction j with
    | zero => simp
    | succ j ih =>
      rw [Int.pow_succ, ih]
      by_cases h : j % 2 = 1
      · rw [if_pos h, if_neg (by omega)]; omega
      · rw [if_neg h, if_pos (by omega)]; omega
  rw [p, Int.mul_comm]
theorem C_log {n : Int} (h : n.natAbs.log2 ≤ 64) : ∀ j : Nat, j ≤ 1000 → (C n j).natAbs.log2 ≤ 70 * j
  | 0, _ => by rw [C_zero]; decide
  | j + 1, hj => by
    have ih := C_log h j (by omega)
    have h2 := C_mul n j
    have le : (C n (j + 1)).natAbs ≤ (C n j).natAbs * (n - j).natAbs := by
      have e := congrArg Int.natAbs h2
      rw [Int.natAbs_mul, Int.natAbs_mul] at e
      rw [← e]
      exact Nat.le_mul_of_pos_left _ (by omega)
    have l1 := log2_mono le
    have l2 := log2_mul_le (C n j).natAbs (n - j).natAbs
    have l3 : (n - j).natAbs ≤ n.natAbs + 1000 := by omega
    have l4 := log2_mono l3
    have l5 := log2_add_le n.natAbs 1000
    have l6 : Nat.log2 1000 = 9 := by decide
    omega

theorem C_logG {n : Int} {e : Nat} (h : n.natAbs.log2 ≤ e) (he : 10 ≤ e) : ∀ j : Nat, j ≤ 1000 → (C n j).natAbs.log2 ≤ (e + 3) * j
  | 0, _ => by
    rw [C_zero]
    have : Nat.log2 1 = 0 := by decide
    show Nat.log2 1 ≤ _
    omega
  | j + 1, hj => by
    have ih := C_logG h he j (by omega)
    have h2 := C_mul n j
    have le : (C n (j + 1)).natAbs ≤ (C n j).natAbs * (n - j).natAbs := by
      have e := congrArg Int.natAbs h2
      rw [Int.natAbs_mul, Int.natAbs_mul] at e
      rw [← e]
      exact Nat.le_mul_of_pos_left _ (by omega)
    have l1 := log2_mono le
    have l2 := log2_mul_le (C n j).natAbs (n - j).natAbs
    have l3 : (n - j).natAbs ≤ n.natAbs + 1000 := by omega
    have l4 := log2_mono l3
    have l5 := log2_add_le n.natAbs 1000
    have l6 : Nat.log2 1000 = 9 := by decide
    rw [Nat.mul_succ]
    omega

theorem kb {j : Nat} (h : j ≤ 1000) : (400 + 3) * j + 402 < 134217000 := by
  have := Nat.mul_le_mul_left (400 + 3) h
  omega
/-! ### sums -/
def Sm (f : Nat → Rat) : Nat → Rat
  | 0 => 0
  | k + 1 => Sm f k + f k
def Fs (f : Nat → Rat) (k : Nat) : List D := (List.range k).map fun i => F (f i)
@[simp] theorem Fs_length (f : Nat → Rat) (k : Nat) : (Fs f k).length = k := by simp [Fs]
theorem Fs_get {f : Nat → Rat} {k i : Nat} (h : i < k) : (Fs f k)[i]? = some (F (f i)) := by simp [Fs, h]
@[simp] theorem Fs_getElem {f : Nat → Rat} {k i : Nat} (h : i < (Fs f k).length) : (Fs f k)[i] = F (f i) := by simp [Fs]
@[simp] theorem Fs_empty (f : Nat → Rat) (k : Nat) : (Fs f k).isEmpty = decide (k = 0) := by cases k <;> simp [Fs, List.range_succ_eq_map]
@[simp] theorem Fs_shp60 (f : Nat → Rat) (k : Nat) : shps 60 (Fs f k) = true := shps_all.2 fun d hd => by
  obtain ⟨i, _, rfl⟩ := List.mem_map.1 hd
  simp [F]
theorem Fs_at {f : Nat → Rat} {k i : Nat} (h : i < k) : atI (Fs f k) (i : Int) = some (F (f i)) := by
  rw [atI_nn (by omega)]; exact Fs_get h
@[simp] theorem Fs_blw (f : Nat → Rat) (k n : Nat) : belows n (Fs f k) = true := belows_all fun d hd => by
  obtain ⟨i, _, rfl⟩ := List.mem_map.1 hd
  simp
@[simp] theorem Fs_sam (f : Nat → Rat) (k n : Nat) : sams (n + 1) (Fs f k) = true := sams_all.2 fun d hd => by
  obtain ⟨i, _, rfl⟩ := List.mem_map.1 hd
  simp
@[simp] theorem Fs_shp (f : Nat → Rat) (k n : Nat) : shps (n + 1) (Fs f k) = true := shps_all.2 fun d hd => by
  obtain ⟨i, _, rfl⟩ := List.mem_map.1 hd
  simp
theorem Fs_succ (f : Nat → Rat) (k : Nat) : Fs f (k + 1) = Fs f k ++ [F (f k)] := by simp [Fs, List.range_succ]
theorem Fs_congr {f g : Nat → Rat} {k : Nat} (h : ∀ i < k, f i = g i) : Fs f k = Fs g k := by
  refine List.map_congr_left fun i hi => ?_
  rw [h i (List.mem_range.1 hi)]
theorem num_le_of {q : Rat} {a b : Int} (h : q = Rat.divInt a b) (hb : 0 < b) : a.natAbs ≤ q.num.natAbs * b.natAbs := by
  have e : a * (q.den : Int) = q.num * b := by
    have h0 := Rat.num_divInt_den q
    rw [Rat.divInt_eq_div] at h0 h
    have d0 : ((q.den : Int) : Rat) ≠ 0 := by have := den_ne q; exact_mod_cast this
    have b0 : (b : Rat) ≠ 0 := by exact_mod_cast (by omega : b ≠ 0)
    have : (q.num : Rat) * (b : Rat) = (a : Rat) * ((q.den : Int) : Rat) := by grind
    have h3 : ((q.num * b : Int) : Rat) = ((a * (q.den : Int) : Int) : Rat) := by
      rw [Rat.intCast_mul, Rat.intCast_mul]; exact this
    exact (Rat.intCast_inj.1 h3).symm
  have e2 := congrArg Int.natAbs e
  rw [Int.natAbs_mul, Int.natAbs_mul] at e2
  rw [← e2]
  exact Nat.le_mul_of_pos_right _ (by have := den_pos q; simpa using this)

/-! ### the program's sums -/
variable {P : Str → Option FD}
theorem choose_eq (hP : P "choose" = some ⟨2, 4, chooseL⟩) {n : Nat} {m : Int} {k : Nat} {st : Sto} (hm : m.natAbs.log2 ≤ 400) (hk : k ≤ 1000) : call P (n + 1) "choose" [.int m, .int (k : Int)] st = ok (.int (C m k)) st := by
  apply Run_eq
  refine Run_call hP rfl ?_
  unfold chooseL
  simp
  rw [items_rng1 (by omega)]
  simp
  refine Run_bnd (P := fun f s => ∃ x, f = .nx [some (.int m), some (.int (k : Int)), some (.int (C m k)), x] ∧ s = st) (Run_rng (fun j σ s => ∃ x, σ = [some (.int m), some (.int (k : Int)), some (.int (C m j)), x] ∧ s = st) ⟨_, by rw [C_zero], rfl⟩ ?_ ?_) ?_
  · rintro j σ s hj ⟨x, rfl, rfl⟩
    have l1 := C_logG hm (by omega) j (by omega)
    have l2 : (m - (j : Int)).natAbs.log2 ≤ 402 := by
      have l3 : (m - (j : Int)).natAbs ≤ m.natAbs + 1000 := by omega
      have l4 := log2_mono l3
      have l5 := log2_add_le m.natAbs 1000
      have l6 : Nat.log2 1000 = 9 := by decide
      omega
    have m1 : ∀ st : Sto, binop .Mult (.int (C m j)) (.int (m - (j : Int))) st = ok (.int (C m j * (m - (j : Int)))) st := fun st => mul_log (Nat.lt_of_le_of_lt (Nat.add_le_add l1 l2) (kb (by omega)))
    have d1 : ∀ (i : Int) (st : Sto), binop .FloorDiv (.int i) (.int ((j : Int) + 1)) st = ok (.int (i / ((j : Int) + 1))) st := fun i st => div_pos (by omega) (by omega)
    simp [m1, d1, C_div]
  · rintro σ s ⟨x, rfl, rfl⟩
    exact ⟨x, rfl, rfl⟩
  · rintro _ _ ⟨x, rfl, rfl⟩
    simp
theorem lten_eq (hP : P "_law_ten" = some ⟨1, 3, ltenL⟩) {n : Nat} {k : Nat} {st : Sto} (hk : k ≤ 1000) : call P (n + 1) "_law_ten" [.int (k : Int)] st = ok (.int (10 ^ k)) st := by
  apply Run_eq
  refine Run_call hP rfl ?_
  unfold ltenL
  simp
  rw [items_rng1 (by omega)]
  simp
  refine Run_bnd (P := fun f s => ∃ x, f = .nx [some (.int (k : Int)), some (.int (10 ^ k)), x] ∧ s = st) (Run_rng (fun j σ s => ∃ x, σ = [some (.int (k : Int)), some (.int (10 ^ j)), x] ∧ s = st) ⟨none, by simp, rfl⟩ ?_ ?_) ?_
  · rintro j σ s hj ⟨x, rfl, rfl⟩
    have l1 : ((10 : Int) ^ j).natAbs.log2 < 5000 := by
      rw [Int.natAbs_pow]
      show ((10 : Nat) ^ j).log2 < 5000
      have e0 : (10 : Nat) ^ j ≠ 0 := Nat.pos_iff_ne_zero.1 (Nat.pow_pos (by decide))
      rw [Nat.log2_lt e0]
      have h1 : (10 : Nat) ^ j ≤ (2 ^ 4) ^ j := Nat.pow_le_pow_left (by decide) j
      rw [← Nat.pow_mul] at h1
      exact Nat.lt_of_le_of_lt h1 (Nat.pow_lt_pow_right (by decide) (by omega))
    have l2 : Nat.log2 10 = 3 := by decide
    have m1 : ∀ st : Sto, binop .Mult (.int (10 ^ j)) (.int 10) st = ok (.int (10 ^ j * 10)) st := fun st => mul_log (by show _ + Nat.log2 10 < _; omega)
    simp [m1, Int.pow_succ]
  · rintro σ s ⟨x, rfl, rfl⟩
    exact ⟨x, rfl, rfl⟩
  · rintro _ _ ⟨x, rfl, rfl⟩
    simp
theorem lchoose_eq (hP : P "_law_choose" = some ⟨2, 4, lchooseL⟩) {n : Nat} {m : Int} {k : Nat} {st : Sto} (hm : m.natAbs.log2 ≤ 390) (hk : k ≤ 1000) : call P (n + 2) "_law_choose" [.int m, .int (k : Int)] st = ok (.int (C m k)) st := by
  have pos : ∀ (n : Nat) (m : Int), m.natAbs.log2 ≤ 400 → 0 ≤ m → call P (n + 1) "_law_choose" [.int m, .int (k : Int)] st = ok (.int (C m k)) st := by
    intro n m hm h0
    apply Run_eq
    refine Run_call hP rfl ?_
    unfold lchooseL
    simp [show ¬ m < 0 by omega]
    rw [items_rng1 (by omega)]
    simp
    refine Run_bnd (P := fun f s => ∃ x, f = .nx [some (.int m), some (.int (k : Int)), some (.int (C m k)), x] ∧ s = st) (Run_rng (fun j σ s => ∃ x, σ = [some (.int m), some (.int (k : Int)), some (.int (C m j)), x] ∧ s = st) ⟨_, by rw [C_zero], rfl⟩ ?_ ?_) ?_
    · rintro j σ s hj ⟨x, rfl, rfl⟩
      have l1 := C_logG hm (by omega) j (by omega)
      have l2 : (m - (j : Int)).natAbs.log2 ≤ 402 := by
        have l3 : (m - (j : Int)).natAbs ≤ m.natAbs + 1000 := by omega
        have l4 := log2_mono l3
        have l5 := log2_add_le m.natAbs 1000
        have l6 : Nat.log2 1000 = 9 := by decide
        omega
      have m1 : ∀ st : Sto, binop .Mult (.int (C m j)) (.int (m - (j : Int))) st = ok (.int (C m j * (m - (j : Int)))) st := fun st => mul_log (Nat.lt_of_le_of_lt (Nat.add_le_add l1 l2) (kb (by omega)))
      have d1 : ∀ (i : Int) (st : Sto), binop .FloorDiv (.int i) (.int ((j : Int) + 1)) st = ok (.int (i / ((j : Int) + 1))) st := fun i st => div_pos (by omega) (by omega)
      simp [m1, d1, C_div]
    · rintro σ s ⟨x, rfl, rfl⟩
      exact ⟨x, rfl, rfl⟩
    · rintro _ _ ⟨x, rfl, rfl⟩
      simp
  by_cases h : 0 ≤ m
  · exact pos (n + 1) m (by omega) h
  · have hm2 : ((k : Int) - m - 1).natAbs.log2 ≤ 400 := by
      have l3 : ((k : Int) - m - 1).natAbs ≤ m.natAbs + 1000 := by omega
      have l4 := log2_mono l3
      have l5 := log2_add_le m.natAbs 1000
      have l6 : Nat.log2 1000 = 9 := by decide
      omega
    have q := pos n ((k : Int) - m - 1) hm2 (by omega)
    have lc := C_logG hm2 (by omega) k hk
    have lc2 : (400 + 3) * k ≤ 403 * 1000 := Nat.mul_le_mul_left _ hk
    rw [call_at hP rfl]
    unfold lchooseL
    have l1 : Nat.log2 1 = 0 := by decide
    have m1 : ∀ (st : Sto), binop .Mult (.int (C ((k : Int) - m - 1) k)) (.int 1) st = ok (.int (C ((k : Int) - m - 1) k * 1)) st := fun st => mul_log (by show _ + Nat.log2 1 < _; omega)
    have m2 : ∀ (st : Sto), binop .Mult (.int (C ((k : Int) - m - 1) k)) (.int (-1)) st = ok (.int (C ((k : Int) - m - 1) k * -1)) st := fun st => mul_log (by show _ + Nat.log2 1 < _; omega)
    rw [C_neg (by omega)]
    by_cases p : k % 2 = 1
    · have p' : (k : Int) % 2 = 1 := by omega
      simp [show m < 0 by omega, q, p, p', m2]
    · have p' : ¬ (k : Int) % 2 = 1 := by omega
      simp [show m < 0 by omega, q, p, p', m1]

/-- a pair that stands for a sum so far -/
structure Part (a b : Int) (q : Rat) : Prop where
  pos : 0 < b
  eq : Rat.divInt a b = q
  la : a.natAbs.log2 ≤ 60004500
  lb : b.natAbs.log2 ≤ 4000
theorem total_eq (hF : P "frac" = some ⟨2, 3, fracL⟩) (hP : P "total_of" = some ⟨1, 4, totalL⟩) {n : Nat} {f : Nat → Rat} {k : Nat} {st : Sto} {r : D} {g : Grd} (hr : seqI r st = some (Fs f k, g)) (hg : held g st)
    (h1 : ∀ i < k, Fit (f i)) (h2 : ∀ i ≤ k, Fit (Sm f i)) : call P (n + 2) "total_of" [r] st = ok (F (Sm f k)) st := by
  apply Run_eq
  refine Run_call hP rfl ?_
  unfold totalL
  have hr' : items .seq [r] st = some (Fs f k, g) := (items_seq st (by cases r <;> first | rfl | cases hr)).trans hr
  simp [asgG, asgGs, hr']
  refine Run_bnd (P := fun fl s => ∃ a b x, fl = .nx [some r, some (.int a), some (.int b), x] ∧ s = st ∧ Part a b (Sm f k))
    (Run_for (fun i σ s => ∃ a b x, σ = [some r, some (.int a), some (.int b), x] ∧ s = st ∧ Part a b (Sm f i)) (fun i σ s h => by obtain ⟨_, _, _, _, rfl, _⟩ := h; exact hg)
      ⟨0, 1, none, rfl, rfl, ⟨by omega, rfl, by decide, by decide⟩⟩ ?_ ?_) ?_
  · rintro i d σ s hi ⟨a, b, x, rfl, rfl, hp⟩
    have hik : i < k := by
      have := (List.getElem?_eq_some_iff.1 hi).1
      simpa using this
    rw [Fs_get hik] at hi
    cases hi
    refine ⟨_, asgG_v _ _ _, ?_⟩
    obtain ⟨b0, e, la, lb⟩ := hp
    have fi := h1 i hik
    have fs := h2 (i + 1) hik
    obtain ⟨q, hq⟩ : ∃ q, q = f i := ⟨_, rfl⟩
    have es : Sm f (i + 1) = Rat.divInt (a * (q.den : Int) + q.num * b) (b * (q.den : Int)) := by
      rw [← Rat.divInt_add_divInt _ _ (by omega) (den_ne q), Rat.num_divInt_den, e, hq]; rfl
    rw [← hq] at fi ⊢
    have bp : (0 : Int) < b * (q.den : Int) := Int.mul_pos b0 (by have := den_pos q; omega)
    have lbb : (b * (q.den : Int)).natAbs.log2 ≤ 8001 := by
      rw [Int.natAbs_mul, natAbs_den]
      have := log2_mul_le b.natAbs q.den
      have := fi.2
      omega
    have m1 : ∀ st : Sto, binop .Mult (.int a) (.int (q.den : Int)) st = ok (.int (a * (q.den : Int))) st := fun st => mul_log (by rw [natAbs_den]; have := fi.2; omega)
    have m2 : ∀ st : Sto, binop .Mult (.int q.num) (.int b) st = ok (.int (q.num * b)) st := fun st => mul_log (by have := fi.1; omega)
    have m3 : ∀ st : Sto, binop .Mult (.int b) (.int (q.den : Int)) st = ok (.int (b * (q.den : Int))) st := fun st => mul_log (by rw [natAbs_den]; have := fi.2; omega)
    have sh : ∀ st : Sto, binop .LShift (.int 1) (.int 400) st = ok (.int (1 * 2 ^ (400 : Int).toNat)) st := fun st => shl_ii (by
      have : Nat.log2 1 = 0 := by decide
      show (0 : Int) ≤ 400 ∧ ((Nat.log2 1 : Nat) : Int) + 400 < ((BITS : Nat) : Int)
      rw [this]
      unfold BITS
      omega)
    obtain ⟨B, hB⟩ : ∃ B : Int, B = 1 * 2 ^ (400 : Int).toNat := ⟨_, rfl⟩
    rw [← hB] at sh
    simp [F, m1, m2, m3, setAll, sh]
    by_cases c : B < b * (q.den : Int)
    · have fe := frac_eq hF (n := n) (a := a * (q.den : Int) + q.num * b) (b := b * (q.den : Int)) (st := s) (by omega) (by omega)
      rw [← es] at fe
      simp [F] at fe
      simp [c, fe, asgG, asgGs]
      exact ⟨_, _, ⟨rfl, rfl⟩, by have := den_pos (Sm f (i + 1)); omega, Rat.num_divInt_den _, by have := fs.1; omega, by rw [natAbs_den]; have := fs.2; omega⟩
    · simp [c]
      have lB : (b * (q.den : Int)).natAbs.log2 ≤ 400 := by
        have hB2 : B.natAbs = 2 ^ 400 := by rw [hB]; simp only [Int.one_mul]; rw [Int.natAbs_pow]; rfl
        refine log2_le_of_lt ?_
        rw [Nat.pow_succ]
        have : (b * (q.den : Int)).natAbs ≤ B.natAbs := by omega
        have p : 0 < 2 ^ 400 := Nat.pow_pos (by decide)
        omega
      refine ⟨_, _, ⟨rfl, rfl⟩, bp, es.symm, ?_, by omega⟩
      have le := num_le_of es bp
      have l1 := log2_mono le
      have l2 := log2_mul_le (Sm f (i + 1)).num.natAbs (b * (q.den : Int)).natAbs
      have := fs.1
      omega
  · rintro σ s ⟨a, b, x, rfl, rfl, hp⟩
    rw [Fs_length] at hp
    exact ⟨a, b, x, rfl, rfl, hp⟩
  · rintro _ st ⟨a, b, x, rfl, rfl, hp⟩
    have fe := frac_eq hF (n := n) (a := a) (b := b) (st := st) (by have := hp.pos; omega) (by have := hp.lb; omega)
    rw [hp.eq] at fe
    simp [fe]

theorem rangeL_map {h : D → D} {f : Nat → Rat} {k : Nat} {lo : Int} (e : ∀ i < k, h (.int (lo + (i : Nat))) = F (f i)) : (rangeL lo k).map h = Fs f k := by
  unfold rangeL Fs
  rw [List.map_map]
  refine List.map_congr_left fun i hi => ?_
  exact e i (List.mem_range.1 hi)
/-- a comprehension over range(k) whose items are fractions -/
theorem comp_F {v : Nat} {σw : Env} {C : CalT} {elt : T} {f : Nat → Rat} {k : Nat} {st : Sto} (hk : k ≤ LINE) (h : ∀ i < k, ev C elt (σw.set v (some (.int (i : Nat)))) st = ok (F (f i)) st) :
    compL [] (.v v) σw (turn C elt []) (rangeL 0 k) [] st = ok (Fs f k) st := by
  rw [comp_map (h := fun d => match d with | .int z => F (f z.toNat) | d => d) (held_nil st) (by rw [rangeL_length]; exact hk)]
  · rw [rangeL_map (f := f)]
    intro i hi
    show F (f (0 + (i : Int)).toNat) = _
    rw [show (0 + (i : Int)).toNat = i by omega]
  · intro d hd
    obtain ⟨i, hi, rfl⟩ := List.mem_map.1 hd
    refine ⟨_, asgG_v _ _ _, ?_⟩
    have := h i (List.mem_range.1 hi)
    rw [show (0 + (i : Int)) = i by omega]
    rw [this]
    show _ = ok (F (f ((i : Int)).toNat)) st
    rw [show ((i : Int)).toNat = i by omega]
theorem prodsum_eq (hF : P "frac" = some ⟨2, 3, fracL⟩) (hT : P "times" = some ⟨2, 2, timesL⟩) (hS : P "total_of" = some ⟨1, 4, totalL⟩) (hP : P "product_sum" = some ⟨2, 3, prodsumL⟩) {n : Nat} {f g : Nat → Rat} {k : Nat} {st : Sto} {r o : D}
    (hl : biop .len [r] st = ok (.int (k : Int)) st) (hi : ∀ i < k, ixop r (.int (i : Nat)) st = ok (F (f i)) st) (ho : ∀ i < k, ixop o (.int (i : Nat)) st = ok (F (g i)) st) (hk : k ≤ LINE)
    (f1 : ∀ i < k, Fit (f i)) (f2 : ∀ i < k, Fit (g i)) (f3 : ∀ i < k, Fit (f i * g i)) (f4 : ∀ i ≤ k, Fit (Sm (fun i => f i * g i) i)) : call P (n + 3) "product_sum" [r, o] st = ok (F (Sm (fun i => f i * g i) k)) st := by
  rw [call_at hP rfl]
  unfold prodsumL
  have kb : k < 4611686018427387904 := Nat.lt_of_le_of_lt hk (by decide)
  have e1 := items_rng1 (j := (k : Int)) (st := st) (by omega)
  have e2 := comp_F (v := 2) (σw := wipe [some r, some o, none] [2]) (C := call P (n + 2)) (elt := .call "times" [(.ix (.v 0) (.v 2)), (.ix (.v 1) (.v 2))] []) (f := fun i => f i * g i) (k := k) (st := st) hk (fun i hik => by
    simp [wipe, hi i hik, ho i hik, times_eq hF hT (f1 i hik) (f2 i hik)])
  have e3 := total_eq hF hS (n := n) (f := fun i => f i * g i) (k := k) (st := st ++ [O.lst (Fs (fun i => f i * g i) k)]) (r := .loc st.length) (g := [(st.length, O.lst (Fs (fun i => f i * g i) k))]) (by simp) (by intro p hp; rw [List.mem_singleton.1 hp]; simp) f3 f4
  simp at e1
  simp [hl, e1, e2, e3]
end MP

set_option Elab.async false
set_option linter.all false
set_option maxRecDepth 100000
set_option maxHeartbeats 4000000
/-! Newton's form; how great fractions are -/
namespace MP

/-! ### sums -/
theorem Sm_congr {f g : Nat → Rat} : ∀ {k : Nat}, (∀ i < k, f i = g i) → Sm f k = Sm g k
  | 0, _ => rfl
  | k + 1, h => by
    have e := Sm_congr (k := k) fun i hi => h i (by omega)
    simp only [Sm, e, h k (by omega)]
theorem Sm_left (f : Nat → Rat) : ∀ k : Nat, Sm f (k + 1) = f 0 + Sm (fun j => f (j + 1)) k
  | 0 => by simp only [Sm]; grind
  | k + 1 => by
    have := Sm_left f k
    simp only [Sm] at *
    grind
theorem Sm_add (f g : Nat → Rat) : ∀ k : Nat, Sm (fun j => f j + g j) k = Sm f k + Sm g k
  | 0 => by simp only [Sm]; grind
  | k + 1 => by
    have := Sm_add f g k
    simp only [Sm] at *
    grind
theorem Sm_zero : ∀ k : Nat, Sm (fun _ => 0) k = 0
  | 0 => rfl
  | k + 1 => by
    have := Sm_zero k
    simp only [Sm] at *
    grind

/-! ### differences -/
def dI (f : Nat → Rat) : Nat → Nat → Rat
  | 0, i => f i
  | k + 1, i => dI f k (i + 1) - dI f k i
def dZ (f : Int → Rat) : Nat → Int → Rat
  | 0, i => f i
  | k + 1, i => dZ f k (i + 1) - dZ f k i
theorem dI_in (f : Nat → Rat) : ∀ (k i : Nat), dI f (k + 1) i = dI (fun j => f (j + 1) - f j) k i
  | 0, _ => rfl
  | k + 1, i => by
    show dI f (k + 1) (i + 1) - dI f (k + 1) i = _
    rw [dI_in f k, dI_in f k]; rfl
theorem dZ_in (f : Int → Rat) : ∀ (k : Nat) (i : Int), dZ f (k + 1) i = dZ (fun j => f (j + 1) - f j) k i
  | 0, _ => rfl
  | k + 1, i => by
    show dZ f (k + 1) (i + 1) - dZ f (k + 1) i = _
    rw [dZ_in f k, dZ_in f k]; rfl
theorem dZ_dI (f : Int → Rat) : ∀ (k i : Nat), dZ f k (i : Int) = dI (fun j => f (j : Nat)) k i
  | 0, _ => rfl
  | k + 1, i => by
    have h1 := dZ_dI f k (i + 1)
    have h2 := dZ_dI f k i
    show dZ f k ((i : Int) + 1) - dZ f k (i : Int) = _
    rw [show ((i : Int) + 1) = ((i + 1 : Nat) : Int) by omega, h1, h2]; rfl
theorem dI_congr {f g : Nat → Rat} {d : Nat} (h : ∀ i < d, f i = g i) : ∀ (k i : Nat), i + k < d → dI f k i = dI g k i
  | 0, i, hi => h i (by omega)
  | k + 1, i, hi => by
    show dI f k (i + 1) - dI f k i = dI g k (i + 1) - dI g k i
    rw [dI_congr h k (i + 1) (by omega), dI_congr h k i (by omega)]
theorem C_0s (j : Nat) : C 0 (j + 1) = 0 := by simp [C, bn]
/-- Newton's form at the places themselves -/
theorem newton_nat : ∀ (i : Nat) (f : Nat → Rat) (k : Nat), i < k → Sm (fun j => (C (i : Int) j : Rat) * dI f j 0) k = f i
  | 0, f, k, h => by
    obtain ⟨k, rfl⟩ : ∃ k', k = k' + 1 := ⟨k - 1, by omega⟩
    rw [Sm_left]
    have : Sm (fun j => ((C (0 : Nat) (j + 1) : Int) : Rat) * dI f (j + 1) 0) k = 0 := by
      rw [← Sm_zero k]
      refine Sm_congr fun j _ => ?_
      show ((C 0 (j + 1) : Int) : Rat) * _ = 0
      rw [C_0s]; simp
    rw [this, C_zero]
    simp [dI]
    grind
  | i + 1, f, k, h => by
    obtain ⟨k, rfl⟩ : ∃ k', k = k' + 1 := ⟨k - 1, by omega⟩
    have h1 := newton_nat i f (k + 1) (by omega)
    have h2 := newton_nat i (fun j => f (j + 1) - f j) k (by omega)
    rw [Sm_left] at h1 ⊢
    have e : Sm (fun j => ((C ((i + 1 : Nat) : Int) (j + 1) : Int) : Rat) * dI f (j + 1) 0) k = Sm (fun j => ((C (i : Int) (j + 1) : Int) : Rat) * dI f (j + 1) 0) k + Sm (fun j => ((C (i : Int) j : Int) : Rat) * dI (fun j => f (j + 1) - f j) j 0) k := by
      rw [← Sm_add]
      refine Sm_congr fun j _ => ?_
      rw [show ((i + 1 : Nat) : Int) = (i : Int) + 1 by omega, C_pascal, ← dI_in, Rat.intCast_add]
      grind
    rw [e, C_zero]
    rw [C_zero] at h1
    grind

/-! ### polynomials of a whole number -/
def Dg : Nat → (Int → Rat) → Prop
  | 0, f => ∀ n, f n = 0
  | k + 1, f => Dg k fun n => f (n + 1) - f n
theorem Dg_eq : ∀ {k : Nat} {f g : Int → Rat}, Dg k f → (∀ n, f n = g n) → Dg k g := fun {k f g} h e => by
  have : f = g := funext e
  rw [← this]; exact h
theorem Dg_add : ∀ {k : Nat} {f g : Int → Rat}, Dg k f → Dg k g → Dg k fun n => f n + g n
  | 0, f, g, hf, hg => fun n => by
    show f n + g n = 0
    rw [hf n, hg n]; grind
  | k + 1, f, g, hf, hg => by
    show Dg k fun n => (f (n + 1) + g (n + 1)) - (f n + g n)
    exact Dg_eq (Dg_add (k := k) hf hg) fun n => by grind
theorem Dg_mul : ∀ {k : Nat} {f : Int → Rat} (c : Rat), Dg k f → Dg k fun n => c * f n
  | 0, f, c, hf => fun n => by
    show c * f n = 0
    rw [hf n]; grind
  | k + 1, f, c, hf => by
    show Dg k fun n => c * f (n + 1) - c * f n
    exact Dg_eq (Dg_mul (k := k) c hf) fun n => by grind
theorem Dg_shift : ∀ {k : Nat} {f : Int → Rat}, Dg k f → Dg k fun n => f (n + 1)
  | 0, f, hf => fun n => hf _
  | k + 1, f, hf => Dg_shift (k := k) hf
theorem Dg_up : ∀ {k : Nat} {f : Int → Rat}, Dg k f → Dg (k + 1) f
  | 0, f, hf => fun n => by
    show f (n + 1) - f n = 0
    rw [hf, hf]; grind
  | k + 1, f, hf => Dg_up (k := k) hf
theorem Dg_mono {k l : Nat} {f : Int → Rat} (h : Dg k f) (le : k ≤ l) : Dg l f := by
  obtain ⟨m, rfl⟩ := Nat.le.dest le
  clear le
  induction m with
  | zero => exact h
  | succ m ih => exact Dg_up ih
theorem Dg_lin : ∀ {k : Nat} {f : Int → Rat} (a b : Rat), Dg k f → Dg (k + 1) fun n => (a * (n : Int) + b) * f n
  | 0, f, a, b, hf => fun n => by
    show (a * ((n + 1 : Int) : Rat) + b) * f (n + 1) - (a * (n : Int) + b) * f n = 0
    rw [hf, hf]; grind
  | k + 1, f, a, b, hf => by
    have h1 := Dg_lin (k := k) a b hf
    have h2 := Dg_mul a (Dg_shift hf)
    show Dg (k + 1) fun n => (a * ((n + 1 : Int) : Rat) + b) * f (n + 1) - (a * (n : Int) + b) * f n
    refine Dg_eq (Dg_add h1 h2) fun n => ?_
    rw [Rat.intCast_add]
    have : ((1 : Int) : Rat) = 1 := rfl
    grind
theorem Dg_one (c : Rat) : Dg 1 fun _ => c := fun n => by grind
theorem Dg_sum {F : Nat → Int → Rat} {d : Nat} : ∀ k : Nat, (∀ j < k, Dg d (F j)) → Dg d fun n => Sm (fun j => F j n) k
  | 0, _ => Dg_mono (k := 0) (fun n => rfl) (Nat.zero_le _)
  | k + 1, h => Dg_add (Dg_sum k fun j hj => h j (by omega)) (h k (by omega))
theorem const_of {h : Int → Rat} (h0 : h 0 = 0) (s : ∀ n, h (n + 1) = h n) : ∀ n : Int, h n = 0 := by
  have up : ∀ k : Nat, h (k : Int) = 0 := by
    intro k
    induction k with
    | zero => exact h0
    | succ k ih => rw [show ((k + 1 : Nat) : Int) = (k : Int) + 1 by omega, s, ih]
  have dn : ∀ k : Nat, h (-(k : Int)) = 0 := by
    intro k
    induction k with
    | zero => exact h0
    | succ k ih =>
      have := s (-((k + 1 : Nat) : Int))
      rw [show -((k + 1 : Nat) : Int) + 1 = -(k : Int) by omega] at this
      rw [← this, ih]
  intro n
  by_cases p : 0 ≤ n
  · have := up n.toNat
    rwa [show ((n.toNat : Nat) : Int) = n by omega] at this
  · have := dn (-n).toNat
    rwa [show -(((-n).toNat : Nat) : Int) = n by omega] at this
/-- Newton's form of a polynomial -/
theorem newton_int : ∀ (k : Nat) (g : Int → Rat), Dg k g → ∀ n : Int, Sm (fun j => (C n j : Rat) * dZ g j 0) k = g n
  | 0, g, h, n => (h n).symm
  | k + 1, g, h, n => by
    have ih := newton_int k _ h
    have key := const_of (h := fun n => g n - Sm (fun j => (C n j : Rat) * dZ g j 0) (k + 1)) (by
      show g 0 - Sm (fun j => (C 0 j : Rat) * dZ g j 0) (k + 1) = 0
      rw [Sm_left]
      have : Sm (fun j => ((C 0 (j + 1) : Int) : Rat) * dZ g (j + 1) 0) k = 0 := by
        rw [← Sm_zero k]
        refine Sm_congr fun j _ => ?_
        rw [C_0s]; simp
      rw [this, C_zero]
      simp [dZ]
      grind) (fun n => by
      show g (n + 1) - Sm (fun j => (C (n + 1) j : Rat) * dZ g j 0) (k + 1) = g n - Sm (fun j => (C n j : Rat) * dZ g j 0) (k + 1)
      rw [Sm_left, Sm_left]
      have e : Sm (fun j => ((C (n + 1) (j + 1) : Int) : Rat) * dZ g (j + 1) 0) k = Sm (fun j => ((C n (j + 1) : Int) : Rat) * dZ g (j + 1) 0) k + Sm (fun j => ((C n j : Int) : Rat) * dZ (fun j => g (j + 1) - g j) j 0) k := by
        rw [← Sm_add]
        refine Sm_congr fun j _ => ?_
        rw [C_pascal, ← dZ_in, Rat.intCast_add]
        grind
      rw [e, ih n, C_zero, C_zero]
      grind) n
    grind

/-! ### binomials of a fraction -/
def Cx (x : Rat) : Nat → Rat
  | 0 => 1
  | j + 1 => Cx x j * ((x - (j : Nat)) * (1 / ((j : Nat) + 1)))
theorem cast_succ_ne (j : Nat) : ((j : Nat) : Rat) + 1 ≠ 0 := by
  have : (((j + 1 : Nat) : Int) : Rat) ≠ 0 := by exact_mod_cast (by omega : j + 1 ≠ 0)
  intro h
  apply this
  push_cast
  exact h
theorem Cx_int (n : Int) : ∀ j : Nat, Cx (n : Rat) j = (C n j : Rat)
  | 0 => by rw [C_zero]; rfl
  | j + 1 => by
    show Cx (n : Rat) j * _ = _
    rw [Cx_int n j]
    have h := C_mul n j
    have h2 : (((((j : Int) + 1) * C n (j + 1) : Int)) : Rat) = ((C n j * (n - (j : Int)) : Int) : Rat) := by rw [h]
    rw [Rat.intCast_mul, Rat.intCast_mul, Rat.intCast_add, Rat.intCast_sub] at h2
    have h3 := cast_succ_ne j
    have e1 : (((j : Nat) : Int) : Rat) = ((j : Nat) : Rat) := rfl
    rw [e1] at h2
    have e2 : ((1 : Int) : Rat) = 1 := rfl
    rw [e2] at h2
    grind
/-- the polynomial through the places -/
def Np (f : Nat → Rat) (d : Nat) (x : Rat) : Rat := Sm (fun j => Cx x j * dI f j 0) d
theorem Np_at (f : Nat → Rat) {d i : Nat} (h : i < d) : Np f d ((i : Nat) : Rat) = f i := by
  rw [← newton_nat i f d h]
  refine Sm_congr fun j _ => ?_
  have := Cx_int (i : Int) j
  have e1 : (((i : Nat) : Int) : Rat) = ((i : Nat) : Rat) := rfl
  rw [e1] at this
  rw [this]
theorem Cx_dg {m : Rat} : ∀ j : Nat, Dg (j + 1) fun n : Int => Cx ((n : Rat) * m) j
  | 0 => Dg_one 1
  | j + 1 => by
    have h := Dg_lin (m * (1 / ((j : Nat) + 1))) (-(j : Nat) * (1 / ((j : Nat) + 1))) (Cx_dg (m := m) j)
    refine Dg_eq h fun n => ?_
    show _ = Cx ((n : Rat) * m) j * _
    grind
theorem Np_dg (f : Nat → Rat) (d : Nat) (m : Rat) : Dg d fun n : Int => Np f d ((n : Rat) * m) := by
  refine Dg_sum d fun j hj => ?_
  have := Dg_mul (dI f j 0) (Dg_mono (Cx_dg (m := m) j) (show j + 1 ≤ d by omega))
  exact Dg_eq this fun n => by grind
/-- the finer differences lead to the polynomial -/
theorem fine_line (f : Nat → Rat) (d : Nat) (m : Rat) (n : Int) : Sm (fun j => (C n j : Rat) * dI (fun i => Np f d (((i : Nat) : Rat) * m)) j 0) d = Np f d ((n : Rat) * m) := by
  rw [← newton_int d _ (Np_dg f d m) n]
  refine Sm_congr fun j _ => ?_
  rw [show (0 : Int) = ((0 : Nat) : Int) from rfl, dZ_dI]
  rfl

/-! ### how great -/
theorem parts_le {q : Rat} {a b : Int} (h : q = Rat.divInt a b) (hb : b ≠ 0) : q.num.natAbs ≤ a.natAbs ∧ q.den ≤ b.natAbs := by
  constructor
  · rw [h, Rat.num_divInt]
    refine Nat.le_trans (Int.natAbs_ediv_le_natAbs _ _) ?_
    rw [Int.natAbs_mul, Int.natAbs_sign_of_ne_zero hb, Nat.one_mul]
    exact Nat.le_refl _
  · rw [h, Rat.den_divInt, if_neg hb]
    exact Nat.div_le_self _ _
def Lg (a b : Nat) (q : Rat) : Prop := q.num.natAbs < 2 ^ a ∧ q.den < 2 ^ b
theorem Lg.mono {a b a' b' : Nat} {q : Rat} (h : Lg a b q) (ha : a ≤ a') (hb : b ≤ b') : Lg a' b' q :=
  ⟨Nat.lt_of_lt_of_le h.1 (Nat.pow_le_pow_right (by decide) ha), Nat.lt_of_lt_of_le h.2 (Nat.pow_le_pow_right (by decide) hb)⟩
theorem Lg.fit {a b : Nat} {q : Rat} (h : Lg a b q) (ha : a ≤ 60000000) (hb : b ≤ 4000) : Fit q := by
  constructor
  · by_cases e : q.num.natAbs = 0
    · rw [e]; decide
    · have := (Nat.log2_lt e).2 h.1
      omega
  · have := (Nat.log2_lt (Nat.pos_iff_ne_zero.1 (den_pos q))).2 h.2
    omega
theorem Lg.of {a b : Nat} {q : Rat} {x y : Int} (h : q = Rat.divInt x y) (hy : y ≠ 0) (hx : x.natAbs < 2 ^ a) (h2 : y.natAbs < 2 ^ b) : Lg a b q :=
  ⟨Nat.lt_of_le_of_lt (parts_le h hy).1 hx, Nat.lt_of_le_of_lt (parts_le h hy).2 h2⟩
theorem Lg.int {a : Nat} {x : Int} (hx : x.natAbs < 2 ^ a) : Lg a 1 (x : Rat) := ⟨by simpa using hx, by simp⟩
theorem Lg.mul {a b a' b' : Nat} {p q : Rat} (h : Lg a b p) (h' : Lg a' b' q) : Lg (a + a') (b + b') (p * q) := by
  have e : p * q = Rat.divInt (p.num * q.num) ((p.den : Int) * (q.den : Int)) := by
    rw [← Rat.divInt_mul_divInt, Rat.num_divInt_den, Rat.num_divInt_den]
  refine Lg.of e (below_ne p q) ?_ ?_
  · rw [Int.natAbs_mul, Nat.pow_add]; exact Nat.mul_lt_mul'' h.1 h'.1
  · rw [Int.natAbs_mul, natAbs_den, natAbs_den, Nat.pow_add]; exact Nat.mul_lt_mul'' h.2 h'.2
theorem Lg.add {a b a' b' : Nat} {p q : Rat} (h : Lg a b p) (h' : Lg a' b' q) : Lg (a + a' + b + b' + 1) (b + b') (p + q) := by
  have e : p + q = Rat.divInt (p.num * (q.den : Int) + q.num * (p.den : Int)) ((p.den : Int) * (q.den : Int)) := by
    rw [← Rat.divInt_add_divInt _ _ (den_ne p) (den_ne q), Rat.num_divInt_den, Rat.num_divInt_den]
  refine Lg.of e (below_ne p q) ?_ ?_
  · have h1 : (p.num * (q.den : Int)).natAbs < 2 ^ (a + b') := by rw [Int.natAbs_mul, natAbs_den, Nat.pow_add]; exact Nat.mul_lt_mul'' h.1 h'.2
    have h2 : (q.num * (p.den : Int)).natAbs < 2 ^ (a' + b) := by rw [Int.natAbs_mul, natAbs_den, Nat.pow_add]; exact Nat.mul_lt_mul'' h'.1 h.2
    have h3 : 2 ^ (a + b') ≤ 2 ^ (a + a' + b + b') := Nat.pow_le_pow_right (by decide) (by omega)
    have h4 : 2 ^ (a' + b) ≤ 2 ^ (a + a' + b + b') := Nat.pow_le_pow_right (by decide) (by omega)
    rw [Nat.pow_succ]
    have := Int.natAbs_add_le (p.num * (q.den : Int)) (q.num * (p.den : Int))
    omega
  · rw [Int.natAbs_mul, natAbs_den, natAbs_den, Nat.pow_add]; exact Nat.mul_lt_mul'' h.2 h'.2
theorem Lg.neg {a b : Nat} {q : Rat} (h : Lg a b q) : Lg a b (-q) := by
  unfold Lg at *
  simpa using h
theorem Lg.sub {a b a' b' : Nat} {p q : Rat} (h : Lg a b p) (h' : Lg a' b' q) : Lg (a + a' + b + b' + 1) (b + b') (p - q) := by
  rw [Rat.sub_eq_add_neg]; exact h.add h'.neg
theorem Lg.zero : Lg 0 1 (0 : Rat) := ⟨by decide, by decide⟩
theorem Lg.sum {a b : Nat} {f : Nat → Rat} : ∀ {k : Nat}, (∀ i < k, Lg a b (f i)) → Lg (k * (a + b * k + b + 3)) (b * k + 1) (Sm f k)
  | 0, _ => by
    rw [Nat.zero_mul, Nat.mul_zero]
    exact Lg.zero
  | k + 1, h => by
    have ih := Lg.sum (k := k) fun i hi => h i (by omega)
    refine (ih.add (h k (by omega))).mono ?_ ?_
    · have e1 : (k + 1) * (a + b * (k + 1) + b + 3) = k * (a + b * (k + 1) + b + 3) + (a + b * (k + 1) + b + 3) := by grind
      have e2 : k * (a + b * k + b + 3) ≤ k * (a + b * (k + 1) + b + 3) := Nat.mul_le_mul_left _ (by have : b * k ≤ b * (k + 1) := Nat.mul_le_mul_left _ (by omega)
                                                                                                     omega)
      have e3 : b * (k + 1) = b * k + b := by grind
      omega
    · have e3 : b * (k + 1) = b * k + b := by grind
      omega

/-- over one denominator -/
def In (M A : Nat) (q : Rat) : Prop := ∃ a : Int, q = Rat.divInt a (M : Int) ∧ a.natAbs ≤ A
theorem divInt_same (a b : Int) (M : Nat) (h : 0 < M) : Rat.divInt a M + Rat.divInt b M = Rat.divInt (a + b) M := by
  rw [Rat.divInt_eq_div, Rat.divInt_eq_div, Rat.divInt_eq_div, Rat.intCast_add]
  grind
theorem In.add {M A B : Nat} {p q : Rat} (h0 : 0 < M) (h : In M A p) (h' : In M B q) : In M (A + B) (p + q) := by
  obtain ⟨a, rfl, ha⟩ := h
  obtain ⟨b, rfl, hb⟩ := h'
  exact ⟨a + b, divInt_same a b M h0, by omega⟩
theorem In.neg {M A : Nat} {q : Rat} (h : In M A q) : In M A (-q) := by
  obtain ⟨a, rfl, ha⟩ := h
  refine ⟨-a, ?_, by omega⟩
  rw [Rat.divInt_eq_div, Rat.divInt_eq_div, Rat.intCast_neg]
  grind
theorem In.sub {M A B : Nat} {p q : Rat} (h0 : 0 < M) (h : In M A p) (h' : In M B q) : In M (A + B) (p - q) := by
  rw [Rat.sub_eq_add_neg]; exact h.add h0 h'.neg
theorem In.mono {M A B : Nat} {q : Rat} (h : In M A q) (le : A ≤ B) : In M B q := by
  obtain ⟨a, e, ha⟩ := h
  exact ⟨a, e, by omega⟩
theorem In.imul {M A : Nat} {q : Rat} (c : Int) (h : In M A q) : In M (c.natAbs * A) ((c : Rat) * q) := by
  obtain ⟨a, rfl, ha⟩ := h
  refine ⟨c * a, ?_, ?_⟩
  · rw [Rat.divInt_eq_div, Rat.divInt_eq_div, Rat.intCast_mul]
    grind
  · rw [Int.natAbs_mul]; exact Nat.mul_le_mul_left _ ha
theorem In.zero (M : Nat) : In M 0 0 := ⟨0, by simp [Rat.divInt_eq_div]; grind, by decide⟩
theorem In.fit {M A : Nat} {q : Rat} (h : In M A q) (h0 : 0 < M) (hM : M.log2 < 4000) (hA : A.log2 < 60000000) : Fit q := by
  obtain ⟨a, e, ha⟩ := h
  have p := parts_le e (by omega)
  constructor
  · exact Nat.lt_of_le_of_lt (log2_mono (Nat.le_trans p.1 ha)) hA
  · exact Nat.lt_of_le_of_lt (log2_mono (Nat.le_trans p.2 (by simp))) hM
theorem In.of_dvd {M : Nat} {q : Rat} (h0 : 0 < M) (h : q.den ∣ M) : In M (q.num.natAbs * M) q := by
  obtain ⟨c, rfl⟩ := h
  have c0 : 0 < c := Nat.pos_of_mul_pos_left h0
  refine ⟨q.num * (c : Int), ?_, ?_⟩
  · have h0 := Rat.num_divInt_den q
    rw [Rat.divInt_eq_div] at h0 ⊢
    rw [Int.natCast_mul, Rat.intCast_mul, Rat.intCast_mul]
    have d0 : ((q.den : Int) : Rat) ≠ 0 := by have := den_ne q; exact_mod_cast this
    have c1 : ((c : Int) : Rat) ≠ 0 := by exact_mod_cast (by omega : c ≠ 0)
    grind
  · rw [Int.natAbs_mul]
    refine Nat.mul_le_mul_left _ ?_
    simp
    exact Nat.le_mul_of_pos_left _ (den_pos q)
/-- the product of the denominators -/
def Mp (g : Nat → Rat) : Nat → Nat
  | 0 => 1
  | k + 1 => Mp g k * (g k).den
theorem Mp_pos (g : Nat → Rat) : ∀ k, 0 < Mp g k
  | 0 => Nat.one_pos
  | k + 1 => Nat.mul_pos (Mp_pos g k) (den_pos _)
theorem Mp_dvd (g : Nat → Rat) : ∀ {k i : Nat}, i < k → (g i).den ∣ Mp g k
  | k + 1, i, h => by
    by_cases e : i = k
    · subst e; exact Nat.dvd_mul_left _ _
    · exact Nat.dvd_trans (Mp_dvd g (show i < k by omega)) (Nat.dvd_mul_right _ _)
theorem Mp_lt {g : Nat → Rat} {b : Nat} : ∀ {k : Nat}, (∀ i < k, (g i).den < 2 ^ b) → Mp g k ≤ 2 ^ (b * k)
  | 0, _ => by simp [Mp]
  | k + 1, h => by
    have ih := Mp_lt (k := k) fun i hi => h i (by omega)
    rw [show b * (k + 1) = b * k + b by grind, Nat.pow_add]
    exact Nat.mul_le_mul ih (Nat.le_of_lt (h k (by omega)))
theorem dI_in' {g : Nat → Rat} {M A d : Nat} (h0 : 0 < M) (h : ∀ i < d, In M A (g i)) : ∀ (k i : Nat), i + k < d → In M (2 ^ k * A) (dI g k i)
  | 0, i, hi => by rw [Nat.pow_zero, Nat.one_mul]; exact h i hi
  | k + 1, i, hi => by
    have h1 := dI_in' h0 h k (i + 1) (by omega)
    have h2 := dI_in' h0 h k i (by omega)
    refine (h1.sub h0 h2).mono ?_
    rw [Nat.pow_succ, Nat.mul_right_comm]; omega
end MP

set_option Elab.async false
set_option linter.all false
set_option maxRecDepth 100000
set_option maxHeartbeats 4000000
/-! lists of whole numbers; sums; what a def leaves behind where it draws -/
namespace MP
open PySem (Str Operator CmpOp)
open PySem
def Zs (f : Nat → Int) (k : Nat) : List D := (List.range k).map fun i => .int (f i)
@[simp] theorem Zs_length (f : Nat → Int) (k : Nat) : (Zs f k).length = k := by simp [Zs]
@[simp] theorem Zs_getElem {f : Nat → Int} {k i : Nat} (h : i < (Zs f k).length) : (Zs f k)[i] = .int (f i) := by simp [Zs]
theorem Zs_at {f : Nat → Int} {k i : Nat} (h : i < k) : atI (Zs f k) (i : Int) = some (.int (f i)) := by
  rw [atI_nn (by omega)]; simp [h]
theorem Zs_atI {f : Nat → Int} {k : Nat} {i : Int} (h0 : 0 ≤ i) (h : i < k) : atI (Zs f k) i = some (.int (f i.toNat)) := by
  rw [atI_nn h0]; simp [show i.toNat < k by omega]
@[simp] theorem Zs_blw (f : Nat → Int) (k n : Nat) : belows n (Zs f k) = true := belows_all fun d hd => by
  obtain ⟨i, _, rfl⟩ := List.mem_map.1 hd
  simp
@[simp] theorem Zs_sam (f : Nat → Int) (k n : Nat) : sams n (Zs f k) = true := sams_all.2 fun d hd => by
  obtain ⟨i, _, rfl⟩ := List.mem_map.1 hd
  simp
theorem Zs_succ (f : Nat → Int) (k : Nat) : Zs f (k + 1) = Zs f k ++ [.int (f k)] := by simp [Zs, List.range_succ]
theorem Zs_zero (f : Nat → Int) : Zs f 0 = [] := rfl
theorem Zs_congr {f g : Nat → Int} {k : Nat} (h : ∀ i < k, f i = g i) : Zs f k = Zs g k := by
  unfold Zs
  exact List.map_congr_left fun i hi => by rw [h i (List.mem_range.1 hi)]
theorem Zs_of (l : List Int) : l.map D.int = Zs (fun i => l.getD i 0) l.length := by
  unfold Zs
  refine List.ext_getElem (by simp) fun i h1 h2 => ?_
  simp at h1
  simp [h1]
theorem Zs_ints (f : Nat → Int) (k : Nat) : Zs f k = ((List.range k).map f).map D.int := by simp [Zs]
theorem rangeL_mapZ {h : D → D} {f : Nat → Int} {k : Nat} {lo : Int} (e : ∀ i < k, h (.int (lo + (i : Nat))) = .int (f i)) : (rangeL lo k).map h = Zs f k := by
  unfold rangeL Zs
  rw [List.map_map]
  refine List.map_congr_left fun i hi => ?_
  exact e i (List.mem_range.1 hi)
theorem comp_Z {v : Nat} {σw : MP.Env} {C : CalT} {elt : T} {f : Nat → Int} {k : Nat} {st : Sto} (hk : k ≤ LINE) (h : ∀ i < k, ev C elt (σw.set v (some (.int (i : Nat)))) st = ok (.int (f i)) st) :
    compL [] (.v v) σw (turn C elt []) (rangeL 0 k) [] st = ok (Zs f k) st := by
  rw [comp_map (h := fun d => match d with | .int z => .int (f z.toNat) | d => d) (held_nil st) (by rw [rangeL_length]; exact hk)]
  · rw [rangeL_mapZ (f := f)]
    intro i hi
    show D.int (f (0 + (i : Int)).toNat) = _
    rw [show (0 + (i : Int)).toNat = i by omega]
  · intro d hd
    obtain ⟨i, hi, rfl⟩ := List.mem_map.1 hd
    refine ⟨_, asgG_v _ _ _, ?_⟩
    have := h i (List.mem_range.1 hi)
    rw [show (0 + (i : Int)) = i by omega]
    rw [this]
    show _ = ok (D.int (f ((i : Int)).toNat)) st
    rw [show ((i : Int)).toNat = i by omega]
/-- the same from another beginning -/
theorem comp_Zlo {v : Nat} {σw : MP.Env} {C : CalT} {elt : T} {f : Nat → Int} {k : Nat} {lo : Int} {st : Sto} (hk : k ≤ LINE) (h : ∀ i < k, ev C elt (σw.set v (some (.int (lo + (i : Nat))))) st = ok (.int (f i)) st) :
    compL [] (.v v) σw (turn C elt []) (rangeL lo k) [] st = ok (Zs f k) st := by
  rw [comp_map (h := fun d => match d with | .int z => .int (f (z - lo).toNat) | d => d) (held_nil st) (by rw [rangeL_length]; exact hk)]
  · rw [rangeL_mapZ (f := f)]
    intro i hi
    show D.int (f (lo + (i : Int) - lo).toNat) = _
    rw [show (lo + (i : Int) - lo).toNat = i by omega]
  · intro d hd
    obtain ⟨i, hi, rfl⟩ := List.mem_map.1 hd
    refine ⟨_, asgG_v _ _ _, ?_⟩
    have := h i (List.mem_range.1 hi)
    rw [this]
    show _ = ok (D.int (f (lo + (i : Int) - lo).toNat)) st
    rw [show (lo + (i : Int) - lo).toNat = i by omega]
/-- a comprehension over a range, any data -/
def Ds (f : Nat → D) (k : Nat) : List D := (List.range k).map f
@[simp] theorem Ds_length (f : Nat → D) (k : Nat) : (Ds f k).length = k := by simp [Ds]
@[simp] theorem Ds_getElem {f : Nat → D} {k i : Nat} (h : i < (Ds f k).length) : (Ds f k)[i] = f i := by simp [Ds]
theorem Ds_at {f : Nat → D} {k i : Nat} (h : i < k) : atI (Ds f k) (i : Int) = some (f i) := by
  rw [atI_nn (by omega)]; simp [h]
theorem Ds_succ (f : Nat → D) (k : Nat) : Ds f (k + 1) = Ds f k ++ [f k] := by simp [Ds, List.range_succ]
theorem Ds_blw {f : Nat → D} {k n : Nat} (h : ∀ i < k, (f i).blw n = true) : belows n (Ds f k) = true := belows_all fun d hd => by
  obtain ⟨i, hi, rfl⟩ := List.mem_map.1 hd
  exact h i (List.mem_range.1 hi)
theorem Ds_sam {f : Nat → D} {k n : Nat} (h : ∀ i < k, sam n (f i) = true) : sams n (Ds f k) = true := sams_all.2 fun d hd => by
  obtain ⟨i, hi, rfl⟩ := List.mem_map.1 hd
  exact h i (List.mem_range.1 hi)
theorem comp_D {v : Nat} {σw : MP.Env} {C : CalT} {elt : T} {f : Nat → D} {k : Nat} {lo : Int} {st : Sto} (hk : k ≤ LINE) (h : ∀ i < k, ev C elt (σw.set v (some (.int (lo + (i : Nat))))) st = ok (f i) st) :
    compL [] (.v v) σw (turn C elt []) (rangeL lo k) [] st = ok (Ds f k) st := by
  have e : (rangeL lo k).map (fun d => match d with | .int z => f (z - lo).toNat | d => d) = Ds f k := by
    unfold rangeL Ds
    rw [List.map_map]
    refine List.map_congr_left fun i hi => ?_
    show f (lo + (i : Int) - lo).toNat = _
    rw [show (lo + (i : Int) - lo).toNat = i by omega]
  rw [comp_map (h := fun d => match d with | .int z => f (z - lo).toNat | d => d) (held_nil st) (by rw [rangeL_length]; exact hk), e]
  intro d hd
  obtain ⟨i, hi, rfl⟩ := List.mem_map.1 hd
  refine ⟨_, asgG_v _ _ _, ?_⟩
  rw [h i (List.mem_range.1 hi)]
  show _ = ok (f (lo + (i : Int) - lo).toNat) st
  rw [show (lo + (i : Int) - lo).toNat = i by omega]

/-! ### generator expressions -/
theorem genL_map {tg : G} {σ : MP.Env} {fe : MP.Env → Sto → R D} {st : Sto} (h : D → D) : ∀ ds : List D, (∀ d ∈ ds, ∃ σ' st', asgG tg d σ = some σ' ∧ fe σ' st = ok (h d) st' ∧ gc st (h d) st' = st) → genL tg σ fe st ds = some (ds.map h)
  | [], _ => rfl
  | d :: ds, hd => by
    obtain ⟨σ', st', e1, e2, e3⟩ := hd d List.mem_cons_self
    have ih := genL_map (tg := tg) (σ := σ) (fe := fe) (st := st) h ds fun x hx => hd x (List.mem_cons_of_mem _ hx)
    unfold genL
    rw [e1, ih]
    have q : quiet (fe σ' st) id st = some (h d) := by
      unfold quiet
      rw [e2]
      exact if_pos e3
    dsimp only
    rw [q]
    rfl
@[simp] theorem intsD_map : ∀ l : List Int, intsD (l.map .int) = some l
  | [] => rfl
  | i :: l => by
    rw [List.map_cons]
    show (intsD (l.map .int)).map (i :: ·) = _
    rw [intsD_map l]; rfl
@[simp] theorem intsD_Zs (f : Nat → Int) (k : Nat) : intsD (Zs f k) = some ((List.range k).map f) := by rw [Zs_ints, intsD_map]
@[simp] theorem blsD_map : ∀ l : List Bool, blsD (l.map .bl) = some l
  | [] => rfl
  | i :: l => by
    rw [List.map_cons]
    show (blsD (l.map .bl)).map (i :: ·) = _
    rw [blsD_map l]; rfl
theorem agop_sum {vs : List D} {is : List Int} (h : intsD vs = some is) (st : Sto) : agop .sum vs st = ok (.int is.sum) st := by
  show (match intsD vs with | some is => ok (D.int is.sum) st | none => none) = _
  rw [h]
theorem agop_all {vs : List D} {bs : List Bool} (h : blsD vs = some bs) (st : Sto) : agop .all vs st = ok (.bl (bs.all id)) st := by
  show (match blsD vs with | some is => ok (D.bl (is.all id)) st | none => none) = _
  rw [h]
theorem agop_any {vs : List D} {bs : List Bool} (h : blsD vs = some bs) (st : Sto) : agop .any vs st = ok (.bl (bs.any id)) st := by
  show (match blsD vs with | some is => ok (D.bl (is.any id)) st | none => none) = _
  rw [h]
theorem sum_eq {n : Nat} {st : Sto} {ds : List D} {is : List Int} (h : st[n]? = some (.lst ds)) (h2 : intsD ds = some is) : biop .sum [.loc n] st = ok (.int is.sum) st := by
  show (match st[n]? with
    | some (.lst ds) => (match intsD ds with
      | some is => ok (D.int is.sum) st
      | none => none)
    | _ => none) = _
  rw [h]
  show (match intsD ds with | some is => ok (D.int is.sum) st | none => none) = _
  rw [h2]
theorem items_enumT (ds : List D) (st : Sto) : items .enum [.tup ds] st = some (ds.zipIdx.map fun p => .tup [.int (p.2 : Nat), p.1], []) := (rfl)
theorem items_enumR (ds : List D) (st : Sto) : items .enum [.rol ds] st = some (ds.zipIdx.map fun p => .tup [.int (p.2 : Nat), p.1], []) := (rfl)
theorem items_enumL {n : Nat} {ds : List D} {st : Sto} (h : st[n]? = some (.lst ds)) : items .enum [.loc n] st = some (ds.zipIdx.map fun p => .tup [.int (p.2 : Nat), p.1], [(n, .lst ds)]) := by
  show itEnum [.loc n] st = _
  unfold itEnum
  dsimp only
  rw [seqI_loc, h]
  rfl
theorem zipIdx_Zs (f : Nat → Int) (k : Nat) : ((Zs f k).zipIdx.map fun p => D.tup [.int (p.2 : Nat), p.1]) = Ds (fun i => .tup [.int (i : Nat), .int (f i)]) k := by
  refine List.ext_getElem (by simp) fun i h1 h2 => ?_
  simp

/-! ### a draw's traces are kept, all else is forgotten -/
theorem gcA {pre : Sto} {s s' : BagA} {g t : Sto} {d : D} (hd : d.blw (pre.length + 3 + g.length) = true) : gc (s.objs pre ++ g) d (s'.objs pre ++ (g ++ t)) = s'.objs pre ++ g := by
  have e1 : (s.objs pre ++ g).length = pre.length + 3 + g.length := by simp
  unfold gc
  rw [if_pos]
  · rw [← List.append_assoc]
    exact List.take_left' (by simp)
  · refine ⟨by rw [e1]; exact hd, by simp, fun i hi => ?_⟩
    rw [e1] at hi ⊢
    by_cases h0 : i < pre.length
    · left
      rw [BagA.objs, BagA.objs, List.append_assoc, List.append_assoc, List.getElem?_append_left h0, List.getElem?_append_left h0]
    · by_cases h3 : pre.length + 3 ≤ i
      · left
        obtain ⟨k, rfl⟩ := Nat.le.dest h3
        rw [objsA_get, objsA_get, List.getElem?_append_left (by omega)]
      · right
        have : i = pre.length ∨ i = pre.length + 1 ∨ i = pre.length + 2 := by omega
        rcases this with rfl | rfl | rfl
        · exact ⟨.lst (s'.great.map .int), by simp [BagA.objs, get_zero'], by simp⟩
        · exact ⟨.lst (s'.rems.map .int), by simp [BagA.objs, get_plus], by simp⟩
        · refine ⟨.lst [.int s'.cur, .int s'.cnt, .loc pre.length, .loc (pre.length + 1)], by simp [BagA.objs, get_plus], ?_⟩
          simp
          omega
theorem gcA0 {pre : Sto} {s s' : BagA} {g : Sto} {d : D} : gc (s.objs pre ++ g) d (s'.objs pre ++ g) = s'.objs pre ++ g := gc_len (by simp)
end MP
namespace MP
open PySem
@[simp] theorem ixF0 (q : Rat) (st : Sto) : ixop (F q) (.int 0) st = ok (.int q.num) st := by unfold F; simp
@[simp] theorem ixF1 (q : Rat) (st : Sto) : ixop (F q) (.int 1) st = ok (.int (q.den : Int)) st := by unfold F; simp
/-! ### names that differ -/
@[simp] theorem str_inj (a b : String) : (Str.ofString a = Str.ofString b) = (a = b) := by
  refine propext ⟨fun h => ?_, fun h => by rw [h]⟩
  rw [Str.ofString_eq_toList, Str.ofString_eq_toList] at h
  have h1 : (a.toList.map Char.toNat).toArray = (b.toList.map Char.toNat).toArray := congrArg Str.cps h
  have h2 : a.toList.map Char.toNat = b.toList.map Char.toNat := congrArg Array.toList h1
  have inj : ∀ x y : Char, x.toNat = y.toNat → x = y := fun x y e => Char.ext (UInt32.toNat_inj.1 e)
  have h3 : ∀ (l r : List Char), l.map Char.toNat = r.map Char.toNat → l = r := by
    intro l
    induction l with
    | nil => intro r e; cases r with
      | nil => rfl
      | cons _ _ => cases e
    | cons x l ih =>
      intro r e
      cases r with
      | nil => cases e
      | cons y r =>
        rw [List.map_cons, List.map_cons] at e
        obtain ⟨e1, e2⟩ := List.cons.inj e
        rw [inj x y e1, ih r e2]
  exact String.toList_inj.1 (h3 _ _ h2)
@[simp] theorem lookup_if {α : Type} (x y : Str) (v : α) (r : List (Str × α)) : List.lookup x ((y, v) :: r) = if x = y then some v else List.lookup x r := by
  rw [List.lookup_cons]
  by_cases h : x = y
  · subst h; simp
  · rw [if_neg h]
    have : (x == y) = false := by simpa using h
    rw [this]
@[simp] theorem lookup_none {α : Type} (x : Str) : List.lookup x ([] : List (Str × α)) = none := rfl
example : (if (("place" : Str) = "numbers") then 1 else 2) = 2 := by simp
end MP
namespace MP
open PySem
/-! ### loops that may be left -/
def TurnE (I : Env → Sto → Prop) (Q : Fl → Sto → Prop) : Fl → Sto → Prop
  | .nx σ, st => I σ st
  | .ct σ, st => I σ st
  | .bk σ, st => Q (.nx σ) st
  | .rt d, st => Q (.rt d) st
@[simp] theorem TurnE_nx (I : Env → Sto → Prop) (Q : Fl → Sto → Prop) (σ : Env) (st : Sto) : TurnE I Q (.nx σ) st = I σ st := (rfl)
@[simp] theorem TurnE_ct (I : Env → Sto → Prop) (Q : Fl → Sto → Prop) (σ : Env) (st : Sto) : TurnE I Q (.ct σ) st = I σ st := (rfl)
@[simp] theorem TurnE_bk (I : Env → Sto → Prop) (Q : Fl → Sto → Prop) (σ : Env) (st : Sto) : TurnE I Q (.bk σ) st = Q (.nx σ) st := (rfl)
@[simp] theorem TurnE_rt (I : Env → Sto → Prop) (Q : Fl → Sto → Prop) (d : D) (st : Sto) : TurnE I Q (.rt d) st = Q (.rt d) st := (rfl)
theorem Run_forE {g : Grd} {tg : G} {b : Env → Sto → R Fl} {Q : Fl → Sto → Prop} {is : List D} {σ : Env} {st : Sto} (I : Nat → Env → Sto → Prop) (hg : ∀ i σ st, I i σ st → held g st)
    (h0 : I 0 σ st)
    (step : ∀ i d σ st, is[i]? = some d → I i σ st → ∃ σ1, asgG tg d σ = some σ1 ∧ Run (b σ1 st) (TurnE (I (i + 1)) Q))
    (hQ : ∀ σ st, I is.length σ st → Q (.nx σ) st) : Run (forL g tg b is σ st) Q := by
  have key : ∀ (ds : List D) (i : Nat) (σ : Env) (st : Sto), is.drop i = ds → i ≤ is.length → I i σ st → Run (forL g tg b ds σ st) Q := by
    intro ds
    induction ds with
    | nil =>
      intro i σ st e hi h
      have hl : i = is.length := by
        have := congrArg List.length e
        rw [List.length_drop, List.length_nil] at this
        omega
      subst hl
      unfold forL
      rw [if_pos (hg _ _ _ h)]
      exact Run_ok' (hQ _ _ h)
    | cons d ds ih =>
      intro i σ st e hi h
      have hl : i < is.length := by
        have := congrArg List.length e
        rw [List.length_drop, List.length_cons] at this
        omega
      have e2 := List.drop_eq_getElem_cons hl
      rw [e] at e2
      obtain ⟨e3, e4⟩ := List.cons.inj e2
      obtain ⟨σ1, h1, fl, st2, e5, q⟩ := step i d σ st (by rw [List.getElem?_eq_getElem hl, e3]) h
      rw [forL, if_pos (hg _ _ _ h), h1]
      dsimp only
      rw [e5, bnd_ok]
      cases fl with
      | nx σ2 => exact ih (i + 1) σ2 st2 e4.symm hl q
      | ct σ2 => exact ih (i + 1) σ2 st2 e4.symm hl q
      | bk σ2 => exact ⟨_, _, rfl, q⟩
      | rt d2 => exact ⟨_, _, rfl, q⟩
  exact key is 0 σ st rfl (Nat.zero_le _) h0
/-- over a range -/
theorem Run_rngE {v : Nat} {b : Env → Sto → R Fl} {Q : Fl → Sto → Prop} {lo : Int} {n : Nat} {σ : Env} {st : Sto} (I : Nat → Env → Sto → Prop)
    (h0 : I 0 σ st)
    (step : ∀ (i : Nat) σ st, i < n → I i σ st → Run (b (σ.set v (some (.int (lo + (i : Nat))))) st) (TurnE (I (i + 1)) Q))
    (hQ : ∀ σ st, I n σ st → Q (.nx σ) st) : Run (forL [] (.v v) b (rangeL lo n) σ st) Q := by
  refine Run_forE I (fun _ _ _ _ => held_nil _) h0 (fun i d σ st hi h => ?_) (fun σ st h => hQ σ st (by rw [rangeL_length] at h; exact h))
  obtain ⟨h1, rfl⟩ := rangeL_get hi
  exact ⟨_, asgG_v _ _ _, step i σ st h1 h⟩
end MP

set_option Elab.async false
set_option linter.all false
set_option maxRecDepth 100000
set_option maxHeartbeats 4000000
/-! texts as lists of code points -/
namespace MP
open PySem
abbrev tx (l : List Nat) : Str := ⟨l.toArray⟩
theorem tx_inj {a b : List Nat} : tx a = tx b ↔ a = b := by
  constructor
  · intro h
    have h2 := congrArg (fun s : Str => s.cps.toList) h
    simpa using h2
  · rintro rfl; rfl
theorem tx_of (s : Str) : tx s.cps.toList = s := by cases s; simp [tx]
theorem tx_lit (s : String) : Str.ofString s = tx (s.toList.map Char.toNat) := by
  rw [← PyProof.Rows.signs_ofString, tx_of]
theorem tx_len (l : List Nat) : (tx l).length = l.length := by simp [Str.length]
theorem tx_app (a b : List Nat) : tx a ++ tx b = tx (a ++ b) := by
  show (⟨a.toArray ++ b.toArray⟩ : Str) = _
  simp
theorem tx_chars (l : List Nat) : chars (tx l) = l.map fun c => D.str (tx [c]) := by simp [chars]

/-! ### figures -/
def isDg (c : Nat) : Bool := decide (48 ≤ c) && decide (c ≤ 57)
def dig (n : Nat) : List Nat := (Nat.toDigits 10 n).map Char.toNat
theorem digitChar_nat : ∀ d : Nat, d < 10 → d.digitChar.toNat = 48 + d := by decide
theorem dig_lt {n : Nat} (h : n < 10) : dig n = [48 + n] := by
  unfold dig
  rw [Nat.toDigits_of_lt_base h, List.map_cons, List.map_nil, digitChar_nat n h]
theorem dig_ge {n : Nat} (h : 10 ≤ n) : dig n = dig (n / 10) ++ [48 + n % 10] := by
  unfold dig
  rw [Nat.toDigits_of_base_le (by decide) h, List.map_append, List.map_cons, List.map_nil, digitChar_nat _ (Nat.mod_lt _ (by decide))]
theorem dig_ne (n : Nat) : dig n ≠ [] := by
  unfold dig
  intro h
  exact Nat.toDigits_ne_nil (List.map_eq_nil_iff.mp h)
theorem dig_pos (n : Nat) : 0 < (dig n).length := List.length_pos_iff.2 (dig_ne n)
theorem dig_all : ∀ n, ∀ c ∈ dig n, isDg c = true := by
  intro n
  induction n using Nat.strongRecOn with
  | _ n ih =>
    intro c hc
    by_cases h : n < 10
    · rw [dig_lt h, List.mem_singleton] at hc
      subst hc
      simp [isDg]; omega
    · rw [dig_ge (by omega)] at hc
      rcases List.mem_append.mp hc with hc | hc
      · exact ih (n / 10) (by omega) c hc
      · rw [List.mem_singleton] at hc
        subst hc
        simp [isDg]; omega
def val (l : List Nat) : Nat := l.foldl (fun a c => a * 10 + (c - 48)) 0
theorem val_snoc (l : List Nat) (c : Nat) : val (l ++ [c]) = val l * 10 + (c - 48) := by simp [val]
theorem val_dig (n : Nat) : val (dig n) = n := by
  induction n using Nat.strongRecOn with
  | _ n ih =>
    by_cases h : n < 10
    · rw [dig_lt h]; simp [val]
    · rw [dig_ge (by omega), val_snoc, ih (n / 10) (by omega)]; omega
theorem dig_len {n k : Nat} (hk : 0 < k) : (dig n).length ≤ k ↔ n < 10 ^ k := by
  unfold dig
  rw [List.length_map]
  exact Nat.length_toDigits_le_iff (by decide) hk
/-- no needless 0 -/
theorem dig_head {n : Nat} (h : n ≠ 0) : (dig n).head? ≠ some 48 := by
  induction n using Nat.strongRecOn with
  | _ n ih =>
    by_cases c : n < 10
    · rw [dig_lt c]; simp; omega
    · rw [dig_ge (by omega)]
      have ne := dig_ne (n / 10)
      rw [List.head?_append, Option.or_of_isSome (by cases e : dig (n / 10) with | nil => exact absurd e ne | cons a l => rfl)]
      exact ih (n / 10) (by omega) (by omega)
theorem val_pad (k : Nat) (l : List Nat) : val (List.replicate k 48 ++ l) = val l := by
  unfold val
  rw [List.foldl_append]
  congr 1
  induction k with
  | zero => rfl
  | succ k ih => rw [List.replicate_succ, List.foldl_cons]; exact ih
def intL (i : Int) : List Nat := if i < 0 then 45 :: dig i.natAbs else dig i.natAbs
theorem ofString_int (i : Int) : Str.ofString (toString i) = tx (intL i) := by
  rw [tx_lit, tx_inj]
  unfold intL
  cases i with
  | ofNat n =>
    have e : (toString (Int.ofNat n) : String) = Nat.repr n := rfl
    rw [e, Nat.toList_repr, if_neg (by simp)]
    rfl
  | negSucc n =>
    have e : (toString (Int.negSucc n) : String) = "-" ++ Nat.repr (n + 1) := rfl
    rw [e, String.toList_append, Nat.toList_repr, if_pos (Int.negSucc_lt_zero n), List.map_append]
    rfl
theorem intL_nat (n : Nat) : intL (n : Int) = dig n := by
  unfold intL
  rw [if_neg (by omega)]
  rfl

/-! ### the number that figures tell -/
theorem digit_isDg {c : Nat} (h : isDg c = true) : NumText.digit? c = some (c - 48) := by
  unfold isDg at h
  unfold NumText.digit?
  have h2 := Bool.and_eq_true_iff.mp h
  rw [if_pos (by simpa using h)]
theorem digits_fold : ∀ (l : List Nat) (a : Array Nat) (b : Bool), (∀ c ∈ l, isDg c = true) → l.foldlM (NumText.step 10) (a, b) = some (a ++ (l.map (· - 48)).toArray, if l = [] then b else true)
  | [], a, b, _ => by simp
  | c :: l, a, b, h => by
    have hc := h c List.mem_cons_self
    have e : NumText.step 10 (a, b) c = some (a.push (c - 48), true) := by
      unfold NumText.step
      have h2 : (c == 95) = false := by
        unfold isDg at hc
        simp at hc
        simp; omega
      rw [h2, digit_isDg hc]
      have h3 : c - 48 < 10 := by
        unfold isDg at hc
        simp at hc
        omega
      simp [h3]
    rw [List.foldlM_cons, e]
    show l.foldlM (NumText.step 10) (a.push (c - 48), true) = _
    rw [digits_fold l _ _ fun x hx => h x (List.mem_cons_of_mem _ hx)]
    simp
theorem digits_ok {l : List Nat} (h : ∀ c ∈ l, isDg c = true) (hn : l ≠ []) : NumText.digits? 10 l = some (l.map (· - 48)).toArray := by
  unfold NumText.digits?
  rw [digits_fold l _ _ h]
  simp [hn]
theorem foldl_map_sub (l : List Nat) (a : Nat) : (l.map (· - 48)).foldl (fun acc d => acc * 10 + d) a = l.foldl (fun acc c => acc * 10 + (c - 48)) a := by
  rw [List.foldl_map]
theorem dg_ge {c : Nat} (h : isDg c = true) : 48 ≤ c ∧ c ≤ 57 := by
  unfold isDg at h
  simpa using h
theorem takeW_all {α : Type} {p : α → Bool} : ∀ {l : List α}, (∀ c ∈ l, p c = true) → l.takeWhile p = l
  | [], _ => rfl
  | c :: l, h => by rw [List.takeWhile_cons, if_pos (h c List.mem_cons_self), takeW_all fun x hx => h x (List.mem_cons_of_mem _ hx)]
theorem dropW_none {α : Type} {p : α → Bool} : ∀ {l : List α}, (∀ c ∈ l.head?, p c = false) → l.dropWhile p = l
  | [], _ => rfl
  | c :: l, h => by rw [List.dropWhile_cons, if_neg (by rw [h c rfl]; decide)]
theorem blank_dg {c : Nat} (h : isDg c = true) : NumText.blank c = false := by
  have := dg_ge h
  unfold NumText.blank
  simp; omega
/-- signed figures -/
theorem intText_of {neg : Bool} {l : List Nat} (h : ∀ c ∈ l, isDg c = true) (hn : l ≠ []) (hl : l.length ≤ 4300) : intText? (tx (if neg = true then 45 :: l else l)) = some (if neg = true then -(val l : Int) else (val l : Int)) := by
  generalize ht : (if neg = true then 45 :: l else l) = t
  have low : ∀ c ∈ t, c < 128 ∧ c ≠ 0 := by
    intro c hc
    subst ht
    cases neg with
    | true =>
      rcases List.mem_cons.mp hc with rfl | hc
      · omega
      · have := dg_ge (h c hc); omega
    | false =>
      have := dg_ge (h c hc); omega
  have e1 : numTextOf (tx t) = t := by
    unfold numTextOf
    rw [if_pos]
    simp
    exact fun c hc => (low c hc).1
  have e2 : numSeenOf (tx t) = t := by
    unfold numSeenOf
    rw [e1]
    exact takeW_all fun c hc => by simp [(low c hc).2]
  have hb : ∀ c ∈ t.head?, NumText.blank c = false := by
    intro c hc
    subst ht
    cases neg with
    | true =>
      simp at hc
      subst hc; rfl
    | false => exact blank_dg (h c (List.mem_of_mem_head? hc))
  have e3 : t.dropWhile NumText.blank = t := dropW_none hb
  have e4 : NumText.sign t = (neg, l) := by
    subst ht
    cases neg with
    | true => rfl
    | false =>
      cases l with
      | nil => exact absurd rfl hn
      | cons c l =>
        have := dg_ge (h c List.mem_cons_self)
        unfold NumText.sign
        simp only [Bool.false_eq_true, if_false]
        split
        · rename_i e; injection e with e _; omega
        · rename_i e; injection e with e _; omega
        · rfl
  have e5 : NumText.core t = l := by
    unfold NumText.core
    rw [e3, e4]
    rw [dropW_none, List.reverse_reverse]
    intro c hc
    exact blank_dg (h c (List.mem_reverse.mp (List.mem_of_mem_head? hc)))
  unfold intText?
  rw [e2, e1, e5, digits_ok h hn, e3, e4]
  simp only [beq_self_eq_true, if_true, List.size_toArray, List.length_map, hl]
  unfold NumText.worth val
  cases neg <;> simp [foldl_map_sub]
theorem intText_val {l : List Nat} (h : ∀ c ∈ l, isDg c = true) (hn : l ≠ []) (hl : l.length ≤ 4300) : intText? (tx l) = some (val l : Int) := intText_of (neg := false) h hn hl
theorem intText_intL (i : Int) (h : (dig i.natAbs).length ≤ 4300) : intText? (tx (intL i)) = some i := by
  unfold intL
  by_cases c : i < 0
  · rw [if_pos c]
    have := intText_of (neg := true) (l := dig i.natAbs) (dig_all _) (dig_ne _) h
    rw [if_pos rfl, if_pos rfl] at this
    rw [this, val_dig]
    congr 1; omega
  · rw [if_neg c, intText_val (dig_all _) (dig_ne _) h, val_dig]
    congr 1; omega
/-- figures without a needless 0 are those of their number -/
theorem dig_val : ∀ {l : List Nat}, (∀ c ∈ l, isDg c = true) → l ≠ [] → (l.length = 1 ∨ l.head? ≠ some 48) → dig (val l) = l := by
  intro l
  induction hk : l.length generalizing l with
  | zero => intro _ h; exact absurd (List.eq_nil_of_length_eq_zero hk) h
  | succ k ih =>
    intro h hn hh
    obtain ⟨l', c, rfl⟩ : ∃ l' c, l = l' ++ [c] := ⟨l.dropLast, l.getLast hn, (List.dropLast_concat_getLast hn).symm⟩
    have hl : l'.length = k := by simpa using hk
    have hc := dg_ge (h c (by simp))
    rw [val_snoc]
    cases l' with
    | nil =>
      have e0 : val [] = 0 := rfl
      rw [e0, Nat.zero_mul, Nat.zero_add, dig_lt (by omega)]
      simp; omega
    | cons d l2 =>
      have hd := dg_ge (h d (by simp))
      have hk0 : k ≠ 0 := by rw [← hl]; simp
      have hh' : d ≠ 48 := by
        rcases hh with hh | hh
        · omega
        · simpa using hh
      have e1 := ih (l := d :: l2) hl (fun x hx => h x (List.mem_append_left _ hx)) (by simp) (.inr (by simpa using hh'))
      have pos : 1 ≤ val (d :: l2) := by
        rcases Nat.eq_zero_or_pos (val (d :: l2)) with z | z
        · rw [z] at e1
          rw [dig_lt (by omega)] at e1
          simp at e1
          omega
        · exact z
      rw [dig_ge (by omega), show (val (d :: l2) * 10 + (c - 48)) / 10 = val (d :: l2) by omega, e1, show 48 + (val (d :: l2) * 10 + (c - 48)) % 10 = c by omega]
end MP

set_option Elab.async false
set_option linter.all false
set_option maxRecDepth 100000
set_option maxHeartbeats 4000000
/-! texts in the interpreter -/
namespace MP
open PySem
@[simp] theorem LINE_eq : LINE = 16777216 := rfl
theorem txl_len (l : List Nat) : (⟨l.toArray⟩ : Str).length = l.length := tx_len l
@[simp] theorem len_tx (l : List Nat) : (tx l).length = l.length := tx_len l
@[simp] theorem eq_tx (a b : List Nat) : (tx a = tx b) = (a = b) := propext tx_inj
@[simp] theorem app_tx (a b : List Nat) : tx a ++ tx b = tx (a ++ b) := tx_app a b
@[simp] theorem chars_tx (l : List Nat) : chars (tx l) = l.map fun c => D.str (tx [c]) := tx_chars l
@[simp] theorem cps_tx (l : List Nat) : (tx l).cps.toList = l := by simp [tx]
theorem cutT_tx (l : List Nat) (i j : Option Int) : cutT (tx l) i j = tx (cutD l i j) := by unfold cutT; rw [cps_tx]
@[simp] theorem slop_strA (l : List Nat) (i : Int) (st : Sto) : slop (.str (tx l)) (some (.int i)) none st = if l.length ≤ 16777216 then ok (.str (tx (cutD l (some i) none))) st else none := by
  show (if (tx l).length ≤ LINE then _ else _) = _
  rw [len_tx, cutT_tx] <;> rfl
@[simp] theorem slop_strB (l : List Nat) (i : Int) (st : Sto) : slop (.str (tx l)) none (some (.int i)) st = if l.length ≤ 16777216 then ok (.str (tx (cutD l none (some i)))) st else none := by
  show (if (tx l).length ≤ LINE then _ else _) = _
  rw [len_tx, cutT_tx] <;> rfl
@[simp] theorem slop_strC (l : List Nat) (i j : Int) (st : Sto) : slop (.str (tx l)) (some (.int i)) (some (.int j)) st = if l.length ≤ 16777216 then ok (.str (tx (cutD l (some i) (some j)))) st else none := by
  show (if (tx l).length ≤ LINE then _ else _) = _
  rw [len_tx, cutT_tx] <;> rfl
theorem cut_from {α : Type} (l : List α) {i : Int} (h : 0 ≤ i) : cutD l (some i) none = l.drop i.toNat := by
  have e : sIx l.length i = min i.toNat l.length := if_neg (by omega)
  show (l.drop (sIx l.length i)).take (l.length - sIx l.length i) = _
  rw [e]
  by_cases c : i.toNat ≤ l.length
  · rw [Nat.min_eq_left c, List.take_of_length_le (by rw [List.length_drop]; omega)]
  · rw [Nat.min_eq_right (by omega), List.drop_length, List.drop_eq_nil_of_le (by omega), List.take_nil]
theorem cut_to {α : Type} (l : List α) {i : Int} (h : 0 ≤ i) : cutD l none (some i) = l.take i.toNat := by
  have e : sIx l.length i = min i.toNat l.length := if_neg (by omega)
  show (l.drop 0).take (sIx l.length i - 0) = _
  rw [e, List.drop_zero, Nat.sub_zero]
  by_cases c : i.toNat ≤ l.length
  · rw [Nat.min_eq_left c]
  · rw [Nat.min_eq_right (by omega), List.take_length, List.take_of_length_le (by omega)]
theorem cut_fromN {α : Type} (l : List α) {k : Nat} (h : 0 < k) : cutD l (some (-(k : Int))) none = l.drop (l.length - k) := by
  have e : sIx l.length (-(k : Int)) = (-(k : Int) + l.length).toNat := if_pos (by omega)
  show (l.drop (sIx l.length (-(k : Int)))).take (l.length - sIx l.length (-(k : Int))) = _
  rw [e, List.take_of_length_le (by rw [List.length_drop]; omega)]
  congr 1; omega
theorem cut_toN {α : Type} (l : List α) {k : Nat} (h : 0 < k) : cutD l none (some (-(k : Int))) = l.take (l.length - k) := by
  have e : sIx l.length (-(k : Int)) = (-(k : Int) + l.length).toNat := if_pos (by omega)
  show (l.drop 0).take (sIx l.length (-(k : Int)) - 0) = _
  rw [e, List.drop_zero, Nat.sub_zero]
  congr 1; omega
@[simp] theorem cut_from_nat {α : Type} (l : List α) (k : Nat) : cutD l (some (k : Int)) none = l.drop k := cut_from l (by omega)
@[simp] theorem cut_to_nat {α : Type} (l : List α) (k : Nat) : cutD l none (some (k : Int)) = l.take k := cut_to l (by omega)
@[simp] theorem cut_from_lit {α : Type} (l : List α) (k : Nat) : cutD l (some (no_index (OfNat.ofNat k : Int))) none = l.drop (OfNat.ofNat k) := cut_from_nat l k
@[simp] theorem cut_to_lit {α : Type} (l : List α) (k : Nat) : cutD l none (some (no_index (OfNat.ofNat k : Int))) = l.take (OfNat.ofNat k) := cut_to_nat l k
@[simp] theorem cut_to_m1 {α : Type} (l : List α) : cutD l none (some (-1)) = l.take (l.length - 1) := cut_toN l (k := 1) (by omega)
@[simp] theorem ixop_tx (l : List Nat) (i : Int) (st : Sto) : ixop (.str (tx l)) (.int i) st = if l.length ≤ 16777216 then getA ((atI l i).map fun c => .str (tx [c])) st else none := by
  show (if (tx l).length ≤ LINE then _ else _) = _
  rw [len_tx, cps_tx]
  by_cases h : l.length ≤ 16777216
  · rw [if_pos h, if_pos (show l.length ≤ LINE from h)]
    cases atI l i <;> rfl
  · rw [if_neg h, if_neg (show ¬ l.length ≤ LINE from h)]
theorem occ_mem (l : List Nat) (c : Nat) : (∃ i, i + (tx [c]).length ≤ (tx l).length ∧ Builtin.Str.subAt (tx l) (tx [c]) i = true) ↔ c ∈ l := by
  constructor
  · rintro ⟨i, h⟩
    have := (StrLaws.subAt_one (tx l) c i).1 h
    rw [cps_tx] at this
    exact List.mem_of_getElem? this
  · intro h
    obtain ⟨i, e⟩ := List.mem_iff_getElem?.mp h
    exact ⟨i, (StrLaws.subAt_one (tx l) c i).2 (by rw [cps_tx]; exact e)⟩
@[simp] theorem has_one (c : Nat) (l : List Nat) : hasT (tx [c]) (tx l) = decide (c ∈ l) := by
  unfold hasT
  rw [Bool.eq_iff_iff, StrLaws.found_iff, occ_mem]
  simp
theorem lstrip_eq (l : List Nat) (c : Nat) : Txt.lstripChars (tx l) (tx [c]) = tx (l.dropWhile (· == c)) := by
  have e0 : (tx [c]).cps.contains = fun x => x == c := by
    funext x
    show (#[c] : Array Nat).contains x = (x == c)
    rw [Bool.eq_iff_iff]
    simp
  unfold Txt.lstripChars
  rw [PyProof.Rows.stripBy_eq]
  have e1 : stripHi (tx [c]).cps.contains false (tx l) (stripLo (tx [c]).cps.contains true (tx l)) = (tx l).length := by
    unfold stripHi; simp
  rw [e1]
  unfold stripLo
  rw [e0, if_pos rfl, cps_tx]
  have e2 : ∀ (l : List Nat), l.drop (l.takeWhile (· == c)).length = l.dropWhile (· == c) := by
    intro l
    induction l with
    | nil => rfl
    | cons a l ih =>
      rw [List.takeWhile_cons, List.dropWhile_cons]
      split
      · rw [List.length_cons, List.drop_succ_cons, ih]
      · rfl
  rw [← e2]
  unfold Builtin.Str.strSub
  simp [tx, Str.length]
  rw [List.take_of_length_le (by rw [List.length_drop]; exact Nat.le_refl _)]
@[simp] theorem repT_one (c : Nat) (k : Int) : repT (tx [c]) k = tx (List.replicate k.toNat c) := by
  unfold repT
  rw [cps_tx, tx_inj]
  simp [List.flatten_replicate_singleton]
@[simp] theorem rplop_tx (c : Nat) (l : List Nat) (st : Sto) : rplop (tx [c]) (tx []) (.str (tx l)) st = if l.length ≤ 16777216 then ok (.str (tx (l.filter (· != c)))) st else none := by
  have e : Txt.replace (tx l) (tx [c]) (tx []) = tx (l.filter (· != c)) := by
    rw [← tx_of (Txt.replace _ _ _)]
    rw [tx_inj]
    have := PyProof.Rows.replace_strikes (tx l) c
    rw [cps_tx] at this
    exact this
  show (if _ then _ else _) = _
  rw [e, len_tx, len_tx]
  have h2 : (tx [c] == tx []) = false := by simp
  by_cases h : l.length ≤ 16777216
  · rw [if_pos h, if_pos ⟨by simp; omega, h2⟩]
  · rw [if_neg h, if_neg (by simp; omega)]
@[simp] theorem mul_tx (c : Nat) (k : Int) (st : Sto) (h : -1000 ≤ k ∧ k ≤ 1000) : binop .Mult (.str (tx [c])) (.int k) st = ok (.str (tx (List.replicate k.toNat c))) st := by
  show (if _ then _ else _) = _
  rw [if_pos ⟨h.1, h.2, by simp⟩, repT_one]
@[simp high] theorem biStr_tx (i : Int) (st : Sto) : biop .str [.int i] st = if i.natAbs.log2 < 1920 then ok (.str (tx (intL i))) st else none := by
  rw [biStr_int, ofString_int]
@[simp high] theorem add_tx (a b : List Nat) (st : Sto) : binop .Add (.str (tx a)) (.str (tx b)) st = if a.length + b.length ≤ 16777216 then ok (.str (tx (a ++ b))) st else none := by
  show (if _ then _ else _) = _
  rw [len_tx, len_tx, app_tx] <;> rfl
@[simp high] theorem biLen_tx (a : List Nat) (st : Sto) : biop .len [.str (tx a)] st = if a.length ≤ 16777216 then ok (.int a.length) st else none := by
  show (if _ then _ else _) = _
  rw [len_tx] <;> rfl
@[simp] theorem qev_rpl (C : CalT) (σ : Env) (st : Sto) (o : T) (y z : Str) : ev C (.rpl o y z) σ st = bnd (ev C o σ st) (rplop y z) := by rw [ev]
noncomputable def kRse (c : Str) (fs : List Str) (ds : List D) (st : Sto) : R Fl := some (.error ⟨c, fs.zip ds⟩, st)
@[simp] theorem kRse_ap (c : Str) (fs : List Str) (ds : List D) (st : Sto) : kRse c fs ds st = some (.error ⟨c, fs.zip ds⟩, st) := (rfl)
@[simp] theorem qex_rse (C : CalT) (σ : Env) (st : Sto) (c : Str) (fs : List Str) (es : List T) : ex C (.rse c fs es) σ st = bnd (evs C es σ st) (kRse c fs) := by rw [ex] <;> rfl
@[simp] theorem qex_try (C : CalT) (σ : Env) (st : Sto) (ret : Bool) (mx : Nat) (t : T) (hs : List (List Str × HX)) : ex C (.try_ ret mx t hs) σ st = if mx ≤ σ.length then caught ret hs σ (ev C t σ st) else none := by rw [ex]
@[simp] theorem caught_ok (ret : Bool) (hs : List (List Str × HX)) (σ : Env) (d : D) (st : Sto) : caught ret hs σ (some (.ok d, st)) = if ret = true then ok (.rt d) st else ok (.nx σ) st := (rfl)
def onH (x : Exn) (st : Sto) (h : Option HX) : R Fl := match h with
  | some h => (match hx x h with
    | some d => ok (.rt d) st
    | none => none)
  | none => some (.error x, st)
@[simp] theorem caught_err (ret : Bool) (hs : List (List Str × HX)) (σ : Env) (e : Exn) (st : Sto) : caught ret hs σ (some (.error e, st)) = onH e st (hxFind e hs) := by
  unfold caught onH
  rfl
@[simp] theorem hxFind_cons (e : Exn) (cs : List Str) (h : HX) (hs : List (List Str × HX)) : hxFind e ((cs, h) :: hs) = if cs.contains e.cls = true then some h else hxFind e hs := by rw [hxFind]
@[simp] theorem hxFind_nil (e : Exn) : hxFind e [] = none := by rw [hxFind]
@[simp] theorem fin_err (st : Sto) (e : Exn) (st' : Sto) : fin st (some (.error e, st')) = some (.error e, gc st (.tup (e.fs.map (·.2))) st') := (rfl)

/-! ### what a reckoning ends in, errors too -/
section
variable {α β : Type}
def RX (r : R α) (Q : Except Exn α → Sto → Prop) : Prop := ∃ x st, r = some (x, st) ∧ Q x st
@[simp] theorem RX_some (x : Except Exn α) (st : Sto) (Q : Except Exn α → Sto → Prop) : RX (some (x, st)) Q ↔ Q x st :=
  ⟨fun ⟨_, _, e, q⟩ => by cases e; exact q, fun q => ⟨x, st, rfl, q⟩⟩
@[simp] theorem RX_none (Q : Except Exn α → Sto → Prop) : RX (none : R α) Q ↔ False := ⟨fun ⟨_, _, e, _⟩ => (by cases e), fun h => h.elim⟩
@[simp] theorem RX_ite (c : Prop) [Decidable c] (x y : R α) (Q : Except Exn α → Sto → Prop) : RX (if c then x else y) Q ↔ (c → RX x Q) ∧ (¬ c → RX y Q) := by
  by_cases h : c <;> simp [h]
@[simp high] theorem RX_iteN (c : Prop) [Decidable c] (x : R α) (Q : Except Exn α → Sto → Prop) : RX (if c then x else none) Q ↔ c ∧ RX x Q := by
  by_cases h : c <;> simp [h]
@[simp] theorem RX_bite (c : Prop) [Decidable c] (x y : R α) (k : α → Sto → R β) (Q : Except Exn β → Sto → Prop) : RX (bnd (if c then x else y) k) Q ↔ (c → RX (bnd x k) Q) ∧ (¬ c → RX (bnd y k) Q) := by
  by_cases h : c <;> simp [h]
@[simp high] theorem RX_biteN (c : Prop) [Decidable c] (x : R α) (k : α → Sto → R β) (Q : Except Exn β → Sto → Prop) : RX (bnd (if c then x else none) k) Q ↔ c ∧ RX (bnd x k) Q := by
  by_cases h : c <;> simp [h]
theorem RX_bnd {r : R α} {f : α → Sto → R β} {P : Except Exn α → Sto → Prop} {Q : Except Exn β → Sto → Prop} (h : RX r P) (k : ∀ a st, P (.ok a) st → RX (f a st) Q) (e : ∀ x st, P (.error x) st → Q (.error x) st) : RX (bnd r f) Q := by
  obtain ⟨x, st, rfl, p⟩ := h
  cases x with
  | ok a => exact k a st p
  | error x => exact ⟨_, _, rfl, e x st p⟩
theorem RX_imp {r : R α} {P Q : Except Exn α → Sto → Prop} (h : RX r P) (k : ∀ x st, P x st → Q x st) : RX r Q := by
  obtain ⟨x, st, e, p⟩ := h
  exact ⟨x, st, e, k x st p⟩
theorem RX_eq {r : R α} {x : Except Exn α} {st : Sto} (h : RX r fun y s => y = x ∧ s = st) : r = some (x, st) := by
  obtain ⟨y, s, e, rfl, rfl⟩ := h
  exact e
def FinX (st : Sto) (Q : Except Exn D → Sto → Prop) : Except Exn Fl → Sto → Prop
  | .ok (.rt d), st' => Q (.ok d) (gc st d st')
  | .ok (.nx _), st' => Q (.ok .non) (gc st .non st')
  | .error e, st' => Q (.error e) (gc st (.tup (e.fs.map (·.2))) st')
  | _, _ => False
@[simp] theorem FinX_rt (st : Sto) (Q : Except Exn D → Sto → Prop) (d : D) (st' : Sto) : FinX st Q (.ok (.rt d)) st' = Q (.ok d) (gc st d st') := (rfl)
@[simp] theorem FinX_nx (st : Sto) (Q : Except Exn D → Sto → Prop) (σ : Env) (st' : Sto) : FinX st Q (.ok (.nx σ)) st' = Q (.ok .non) (gc st .non st') := (rfl)
@[simp] theorem FinX_err (st : Sto) (Q : Except Exn D → Sto → Prop) (e : Exn) (st' : Sto) : FinX st Q (.error e) st' = Q (.error e) (gc st (.tup (e.fs.map (·.2))) st') := (rfl)
theorem RX_call {P : Str → Option FD} {f : Str} {n np nv : Nat} {b : List S} {ds : List D} {st : Sto} {Q : Except Exn D → Sto → Prop} (hP : P f = some ⟨np, nv, b⟩) (hl : ds.length = np)
    (h : RX (exs (call P n) b (ds.map some ++ List.replicate (nv - ds.length) none) st) (FinX st Q)) : RX (call P (n + 1) f ds st) Q := by
  rw [call_at hP hl]
  obtain ⟨fl, st', e, q⟩ := h
  rw [e]
  cases fl with
  | error x => exact ⟨_, _, rfl, q⟩
  | ok fl =>
    cases fl with
    | rt d => exact ⟨_, _, rfl, q⟩
    | nx σ => exact ⟨_, _, rfl, q⟩
    | bk σ => exact q.elim
    | ct σ => exact q.elim
end
end MP

set_option Elab.async false
set_option linter.all false
set_option maxRecDepth 100000
set_option maxHeartbeats 4000000
/-! loops that may raise; the figures' places in a text; how far two texts agree -/
namespace MP
open PySem (Str Operator CmpOp)
def TurnX (I : Env → Sto → Prop) (Q : Except Exn Fl → Sto → Prop) : Except Exn Fl → Sto → Prop
  | .ok (.nx σ), st => I σ st
  | .ok (.ct σ), st => I σ st
  | .ok (.bk σ), st => Q (.ok (.nx σ)) st
  | .ok (.rt d), st => Q (.ok (.rt d)) st
  | .error e, st => Q (.error e) st
@[simp] theorem TurnX_nx (I : Env → Sto → Prop) (Q : Except Exn Fl → Sto → Prop) (σ : Env) (st : Sto) : TurnX I Q (.ok (.nx σ)) st = I σ st := (rfl)
@[simp] theorem TurnX_ct (I : Env → Sto → Prop) (Q : Except Exn Fl → Sto → Prop) (σ : Env) (st : Sto) : TurnX I Q (.ok (.ct σ)) st = I σ st := (rfl)
@[simp] theorem TurnX_bk (I : Env → Sto → Prop) (Q : Except Exn Fl → Sto → Prop) (σ : Env) (st : Sto) : TurnX I Q (.ok (.bk σ)) st = Q (.ok (.nx σ)) st := (rfl)
@[simp] theorem TurnX_rt (I : Env → Sto → Prop) (Q : Except Exn Fl → Sto → Prop) (d : D) (st : Sto) : TurnX I Q (.ok (.rt d)) st = Q (.ok (.rt d)) st := (rfl)
@[simp] theorem TurnX_err (I : Env → Sto → Prop) (Q : Except Exn Fl → Sto → Prop) (e : Exn) (st : Sto) : TurnX I Q (.error e) st = Q (.error e) st := (rfl)
theorem RX_for {g : Grd} {tg : G} {b : Env → Sto → R Fl} {Q : Except Exn Fl → Sto → Prop} {is : List D} {σ : Env} {st : Sto} (I : Nat → Env → Sto → Prop) (hg : ∀ i σ st, I i σ st → held g st)
    (h0 : I 0 σ st)
    (step : ∀ i d σ st, is[i]? = some d → I i σ st → ∃ σ1, asgG tg d σ = some σ1 ∧ RX (b σ1 st) (TurnX (I (i + 1)) Q))
    (hQ : ∀ σ st, I is.length σ st → Q (.ok (.nx σ)) st) : RX (forL g tg b is σ st) Q := by
  have key : ∀ (ds : List D) (i : Nat) (σ : Env) (st : Sto), is.drop i = ds → i ≤ is.length → I i σ st → RX (forL g tg b ds σ st) Q := by
    intro ds
    induction ds with
    | nil =>
      intro i σ st e hi h
      have hl : i = is.length := by
        have := congrArg List.length e
        rw [List.length_drop, List.length_nil] at this
        omega
      subst hl
      unfold forL
      rw [if_pos (hg _ _ _ h)]
      exact ⟨_, _, rfl, hQ _ _ h⟩
    | cons d ds ih =>
      intro i σ st e hi h
      have hl : i < is.length := by
        have := congrArg List.length e
        rw [List.length_drop, List.length_cons] at this
        omega
      have e2 := List.drop_eq_getElem_cons hl
      rw [e] at e2
      obtain ⟨e3, e4⟩ := List.cons.inj e2
      obtain ⟨σ1, h1, fl, st2, e5, q⟩ := step i d σ st (by rw [List.getElem?_eq_getElem hl, e3]) h
      rw [forL, if_pos (hg _ _ _ h), h1]
      dsimp only
      rw [e5]
      cases fl with
      | error x => exact ⟨_, _, rfl, q⟩
      | ok fl =>
        rw [bnd_ok]
        cases fl with
        | nx σ2 => exact ih (i + 1) σ2 st2 e4.symm hl q
        | ct σ2 => exact ih (i + 1) σ2 st2 e4.symm hl q
        | bk σ2 => exact ⟨_, _, rfl, q⟩
        | rt d2 => exact ⟨_, _, rfl, q⟩
  exact key is 0 σ st rfl (Nat.zero_le _) h0
theorem RX_rng {v : Nat} {b : Env → Sto → R Fl} {Q : Except Exn Fl → Sto → Prop} {lo : Int} {n : Nat} {σ : Env} {st : Sto} (I : Nat → Env → Sto → Prop)
    (h0 : I 0 σ st)
    (step : ∀ (i : Nat) σ st, i < n → I i σ st → RX (b (σ.set v (some (.int (lo + (i : Nat))))) st) (TurnX (I (i + 1)) Q))
    (hQ : ∀ σ st, I n σ st → Q (.ok (.nx σ)) st) : RX (forL [] (.v v) b (rangeL lo n) σ st) Q := by
  refine RX_for I (fun _ _ _ _ => held_nil _) h0 (fun i d σ st hi h => ?_) (fun σ st h => hQ σ st (by rw [rangeL_length] at h; exact h))
  obtain ⟨h1, rfl⟩ := rangeL_get hi
  exact ⟨_, asgG_v _ _ _, step i σ st h1 h⟩
theorem RX_of_Run {α : Type} {r : R α} {P : α → Sto → Prop} {Q : Except Exn α → Sto → Prop} (h : Run r P) (k : ∀ a st, P a st → Q (.ok a) st) : RX r Q := by
  obtain ⟨a, st, e, p⟩ := h
  exact ⟨_, _, e, k _ _ p⟩
theorem Run_of_RX {α : Type} {r : R α} {P : Except Exn α → Sto → Prop} {Q : α → Sto → Prop} (h : RX r P) (k : ∀ a st, P (.ok a) st → Q a st) (n : ∀ e st, ¬ P (.error e) st) : Run r Q := by
  obtain ⟨a, st, e, p⟩ := h
  cases a with
  | error x => exact (n _ _ p).elim
  | ok a => exact ⟨_, _, e, k _ _ p⟩
/-- an item of a text -/
theorem atI_tx {l : List Nat} {i : Nat} (h : i < l.length) : atI l (i : Int) = some (l.getD i 0) := by
  rw [atI_nn (by omega)]
  simp [h, List.getD_eq_getElem?_getD]
theorem atI_neg {α : Type} {l : List α} {k : Nat} (h0 : 0 < k) (h : k ≤ l.length) : atI l (-(k : Int)) = l[l.length - k]? := by
  unfold atI ixN
  rw [if_neg (by omega), if_pos (by omega)]
  show l[_]? = _
  congr 1
  omega
/-- enumerate of a text -/
theorem enum_tx (t : List Nat) (st : Sto) : items .enum [.str (tx t)] st = some (Ds (fun i => .tup [.int (i : Nat), .str (tx [t.getD i 0])]) t.length, []) := by
  have e : items .enum [.str (tx t)] st = some ((chars (tx t)).zipIdx.map fun p => .tup [.int (p.2 : Nat), p.1], []) := rfl
  rw [e, chars_tx]
  congr 2
  refine List.ext_getElem (by simp) fun i h1 h2 => ?_
  have h3 : i < t.length := by simpa using h2
  simp [List.getD_eq_getElem?_getD, h3]
theorem Ds_filter (f : Nat → D) (k : Nat) (p : D → Bool) : (Ds f k).filter p = ((List.range k).filter fun i => p (f i)).map f := by
  unfold Ds
  rw [List.filter_map]; rfl
theorem isDg_mem (c : Nat) : decide (c ∈ [48, 49, 50, 51, 52, 53, 54, 55, 56, 57]) = isDg c := by
  rw [Bool.eq_iff_iff]
  unfold isDg
  simp
  omega
/-- the places of a text's figures -/
def pos (t : List Nat) : List Nat := (List.range t.length).filter fun i => isDg (t.getD i 0)
/-- the place of the last figure but one -/
def told (t : List Nat) : Nat := if 1 < (pos t).length then (pos t).getD ((pos t).length - 2) 0 else 0
theorem pos_le (t : List Nat) : (pos t).length ≤ t.length := by
  unfold pos
  have := List.length_filter_le (fun i => isDg (t.getD i 0)) (List.range t.length)
  rwa [List.length_range] at this
theorem pos_lt {t : List Nat} {i : Nat} (h : i ∈ pos t) : i < t.length := List.mem_range.1 (List.mem_filter.1 h).1
theorem told_le (t : List Nat) : told t ≤ t.length := by
  unfold told
  split
  · rename_i h
    rw [List.getD_eq_getElem?_getD, List.getElem?_eq_getElem (show (pos t).length - 2 < (pos t).length by omega)]
    exact Nat.le_of_lt (pos_lt (List.getElem_mem _))
  · omega
theorem pos_atI {t : List Nat} (h : 1 < (pos t).length) : atI ((pos t).map fun i => D.int (i : Nat)) (-2) = some (.int (told t : Nat)) := by
  have e : atI ((pos t).map fun i => D.int (i : Nat)) (-((2 : Nat) : Int)) = _ := atI_neg (by omega) (by rw [List.length_map]; omega)
  refine e.trans ?_
  unfold told
  rw [if_pos h, List.length_map, List.getElem?_map, List.getElem?_eq_getElem (show (pos t).length - 2 < (pos t).length by omega), List.getD_eq_getElem?_getD, List.getElem?_eq_getElem (show (pos t).length - 2 < (pos t).length by omega)]
  rfl
/-- the comprehension over enumerate(text) -/
theorem comp_enum {C : CalT} {σ : MP.Env} {st : Sto} {a b : Nat} {cs : List T} (t : List Nat) (hl : t.length ≤ LINE) (hab : a ≠ b) (ha : a < σ.length)
    (h : ∀ i < t.length, evc C cs ((σ.set a (some (.int (i : Nat)))).set b (some (.str (tx [t.getD i 0])))) st = ok (isDg (t.getD i 0)) st) :
    compL [] (.tup [.v a, .v b]) σ (turn C (.v a) cs) (Ds (fun i => .tup [.int (i : Nat), .str (tx [t.getD i 0])]) t.length) [] st = ok ((pos t).map fun i => D.int (i : Nat)) st := by
  rw [comp_filter (p := fun d => match d with | .tup [_, .str s] => isDg (s.cps.toList.getD 0 0) | _ => false) (h := fun d => match d with | .tup [.int i, _] => .int i | _ => d) (held_nil st) _ [] (by simpa using hl)]
  · rw [List.nil_append, Ds_filter, List.map_map]
    unfold pos
    simp [Function.comp_def]
  · intro d hd
    obtain ⟨i, hi, rfl⟩ := List.mem_map.1 hd
    have hi := List.mem_range.1 hi
    refine ⟨(σ.set a (some (.int (i : Nat)))).set b (some (.str (tx [t.getD i 0]))), by simp [asgG, asgGs], ?_, fun _ => ?_⟩
    · rw [h i hi]; simp
    · have : (σ.set a (some (.int (i : Nat)))).set b (some (.str (tx [t.getD i 0]))) = _ := rfl
      simp [List.getElem?_set, hab, Ne.symm hab, ha]
/-- the same over range(len(text)) -/
theorem comp_pos {C : CalT} {σ : MP.Env} {st : Sto} {a : Nat} {cs : List T} (t : List Nat) (hl : t.length ≤ LINE) (ha : a < σ.length)
    (h : ∀ i < t.length, evc C cs (σ.set a (some (.int (i : Nat)))) st = ok (isDg (t.getD i 0)) st) :
    compL [] (.v a) σ (turn C (.v a) cs) (rangeL 0 t.length) [] st = ok ((pos t).map fun i => D.int (i : Nat)) st := by
  rw [comp_filter (p := fun d => match d with | .int i => isDg (t.getD i.toNat 0) | _ => false) (h := id) (held_nil st) _ [] (by rw [rangeL_length]; simpa using hl)]
  · unfold rangeL
    rw [List.nil_append, List.filter_map, List.map_map]
    unfold pos
    simp [Function.comp_def]
  · intro d hd
    obtain ⟨i, hi, rfl⟩ := List.mem_map.1 hd
    have hi := List.mem_range.1 hi
    refine ⟨_, asgG_v _ _ _, ?_, fun _ => ?_⟩
    · have := h i hi
      simpa using this
    · simp [ha]
/-- how far two texts agree -/
def lcp : List Nat → List Nat → Nat
  | x :: a, y :: b => if x = y then lcp a b + 1 else 0
  | _, _ => 0
theorem lcp_le : ∀ a b : List Nat, lcp a b ≤ a.length ∧ lcp a b ≤ b.length
  | [], b => by simp [lcp]
  | x :: a, [] => by simp [lcp]
  | x :: a, y :: b => by
    have := lcp_le a b
    unfold lcp
    split <;> simp <;> omega
theorem lcp_take : ∀ (a b : List Nat) (m : Nat), m ≤ lcp a b → a.take m = b.take m
  | [], b, m, h => by
    have := (lcp_le [] b).1
    have : m = 0 := by simp at this; omega
    subst this; simp
  | x :: a, [], m, h => by
    have := (lcp_le (x :: a) []).2
    have : m = 0 := by simp at this; omega
    subst this; simp
  | x :: a, y :: b, m, h => by
    unfold lcp at h
    split at h
    · rename_i e
      subst e
      cases m with
      | zero => rfl
      | succ m => rw [List.take_succ_cons, List.take_succ_cons, lcp_take a b m (by omega)]
    · have : m = 0 := by omega
      subst this; simp
theorem lcp_of : ∀ (a b : List Nat) (m : Nat), m ≤ a.length → m ≤ b.length → (∀ i < m, a.getD i 0 = b.getD i 0) → m ≤ lcp a b
  | a, b, 0, _, _, _ => Nat.zero_le _
  | x :: a, y :: b, m + 1, h1, h2, h => by
    have e := h 0 (by omega)
    simp at e
    unfold lcp
    rw [if_pos e]
    exact Nat.succ_le_succ (lcp_of a b m (by simpa using h1) (by simpa using h2) fun i hi => by
      have := h (i + 1) (by omega)
      simpa using this)
theorem lcp_at {a b : List Nat} {i : Nat} (h : i < lcp a b) : a.getD i 0 = b.getD i 0 := by
  have e := congrArg (fun l => l.getD i 0) (lcp_take a b (i + 1) h)
  simpa [List.getD_eq_getElem?_getD, List.getElem?_take] using e
theorem lcp_stop {a b : List Nat} {m : Nat} (h1 : m ≤ a.length) (h2 : m ≤ b.length) (h : ∀ i < m, a.getD i 0 = b.getD i 0) (s : m < a.length → m < b.length → a.getD m 0 ≠ b.getD m 0) : lcp a b = m := by
  have l1 := lcp_of a b m h1 h2 h
  have l2 := lcp_le a b
  by_cases c : m < lcp a b
  · exact absurd (lcp_at c) (s (by omega) (by omega))
  · omega
@[simp high] theorem in_dg (c : Nat) (st : Sto) : cmpop .In (.str (tx [c])) (.str (tx [48, 49, 50, 51, 52, 53, 54, 55, 56, 57])) st = ok (.bl (isDg c)) st := by
  rw [in_tt, has_one, isDg_mem]
theorem index_one {c : Nat} {l : List Nat} (h : c ∈ l) (st : Sto) : mtop .index (.str (tx l)) [.str (tx [c])] st = ok (.int (l.idxOf c : Nat)) st := by
  show (match PySem.Builtin.Str.occurrences (tx l) (tx [c]) 0 (tx l).length 1 with
    | i :: _ => ok (D.int (i : Nat)) st
    | [] => none) = _
  rcases PySem.StrLaws.occ_head (tx l) (tx [c]) 1 (by omega) with ⟨_, h2⟩ | ⟨i, r, e, h1, h2⟩
  · obtain ⟨i, hi⟩ := (occ_mem l c).2 h
    exact absurd hi (h2 i)
  · rw [e]
    have e1 : l[i]? = some c := by
      have := (PySem.StrLaws.subAt_one (tx l) c i).1 h1
      rwa [cps_tx] at this
    have hi : i < l.length := (List.getElem?_eq_some_iff.1 e1).1
    have : l.idxOf c = i := by
      have hl := List.idxOf_lt_length_iff.2 h
      rcases Nat.lt_trichotomy (l.idxOf c) i with q | q | q
      · refine absurd ((PySem.StrLaws.subAt_one (tx l) c (l.idxOf c)).2 ?_) (h2 _ q)
        rw [cps_tx, List.getElem?_eq_getElem hl, List.getElem_idxOf]
      · exact q
      · have := List.not_of_lt_findIdx (p := (· == c)) (xs := l) (i := i) q
        rw [List.getElem?_eq_getElem hi] at e1
        simp at this e1
        exact absurd e1 this
    show ok (D.int (i : Nat)) st = _
    rw [this]
/-! ### suites -/
def retO (o : Option D) (st : Sto) : R Fl := match o with
  | some d => ok (.rt d) st
  | none => none
@[simp] theorem retO_some (d : D) (st : Sto) : retO (some d) st = ok (.rt d) st := (rfl)
@[simp] theorem onH_some (x : Exn) (st : Sto) (h : HX) : onH x st (some h) = retO (hx x h) st := (rfl)
@[simp] theorem onH_none (x : Exn) (st : Sto) : onH x st none = some (.error x, st) := (rfl)
@[simp] theorem onH_ite (x : Exn) (st : Sto) (c : Prop) [Decidable c] (a b : Option HX) : onH x st (if c then a else b) = if c then onH x st a else onH x st b := by split <;> rfl
def hxIte (o : Option D) (a b : Option D) : Option D := match o with
  | some (.bl true) => a
  | some (.bl false) => b
  | _ => none
@[simp] theorem hxIte_t (b : Bool) (x y : Option D) : hxIte (some (.bl b)) x y = if b = true then x else y := by cases b <;> rfl
def hxNot (o : Option D) : Option D := match o with
  | some (.bl b) => some (.bl (!b))
  | _ => none
@[simp] theorem hxNot_t (b : Bool) : hxNot (some (.bl b)) = some (.bl (!b)) := (rfl)
def hxSub (o p : Option D) : Option D := match o, p with
  | some (.int i), some (.int j) => some (.int (i - j))
  | _, _ => none
@[simp] theorem hxSub_t (i j : Int) : hxSub (some (.int i)) (some (.int j)) = some (.int (i - j)) := (rfl)
def hxCons (o : Option D) (p : Option (List D)) : Option (List D) := match o, p with
  | some d, some ds => some (d :: ds)
  | _, _ => none
@[simp] theorem hxCons_t (d : D) (ds : List D) : hxCons (some d) (some ds) = some (d :: ds) := (rfl)
@[simp] theorem hx_non (e : Exn) : hx e .non = some .non := by rw [hx] <;> rfl
@[simp] theorem hx_bl (e : Exn) (b : Bool) : hx e (.bl b) = some (.bl b) := by rw [hx] <;> rfl
@[simp] theorem hx_int (e : Exn) (b : Int) : hx e (.int b) = some (.int b) := by rw [hx] <;> rfl
@[simp] theorem hx_str (e : Exn) (b : Str) : hx e (.str b) = some (.str b) := by rw [hx] <;> rfl
@[simp] theorem hx_fld (e : Exn) (f : Str) : hx e (.fld f) = e.fs.lookup f := by rw [hx] <;> rfl
@[simp] theorem hx_isx (e : Exn) (cs : List Str) : hx e (.isx cs) = some (.bl (cs.contains e.cls)) := by rw [hx] <;> rfl
@[simp] theorem hx_ite (e : Exn) (c a b : HX) : hx e (.ite c a b) = hxIte (hx e c) (hx e a) (hx e b) := by rw [hx] <;> rfl
@[simp] theorem hx_and (e : Exn) (a b : HX) : hx e (.and a b) = hxIte (hx e a) (hx e b) (some (.bl false)) := by rw [hx] <;> rfl
@[simp] theorem hx_not (e : Exn) (a : HX) : hx e (.not a) = hxNot (hx e a) := by rw [hx] <;> rfl
@[simp] theorem hx_tup (e : Exn) (es : List HX) : hx e (.tup es) = (hxs e es).map .tup := by rw [hx] <;> rfl
@[simp] theorem hx_sub (e : Exn) (a b : HX) : hx e (.sub a b) = hxSub (hx e a) (hx e b) := by rw [hx] <;> rfl
@[simp] theorem hxs_nil (e : Exn) : hxs e [] = some [] := by rw [hxs] <;> rfl
@[simp] theorem hxs_cons (e : Exn) (h : HX) (hs : List HX) : hxs e (h :: hs) = hxCons (hx e h) (hxs e hs) := by rw [hxs] <;> rfl
@[simp] theorem set_endN (st : Sto) (o o' : O) : (st ++ [o]).set st.length o' = st ++ [o'] := by
  rw [List.set_append_right _ _ (Nat.le_refl _), Nat.sub_self]; rfl
/-- a row of texts -/
def Ts (f : Nat → List Nat) (k : Nat) : List D := Ds (fun i => .str (tx (f i))) k
@[simp] theorem Ts_length (f : Nat → List Nat) (k : Nat) : (Ts f k).length = k := by simp [Ts]
theorem Ts_at {f : Nat → List Nat} {k i : Nat} (h : i < k) : atI (Ts f k) (i : Int) = some (.str (tx (f i))) := Ds_at h
theorem Ts_succ (f : Nat → List Nat) (k : Nat) : Ts f (k + 1) = Ts f k ++ [.str (tx (f k))] := Ds_succ _ k
@[simp] theorem Ts_blw (f : Nat → List Nat) (k n : Nat) : belows n (Ts f k) = true := Ds_blw fun i _ => by simp
@[simp] theorem Ts_sam (f : Nat → List Nat) (k n : Nat) : sams n (Ts f k) = true := Ds_sam fun i _ => by simp
theorem Ts_congr {f g : Nat → List Nat} {k : Nat} (h : ∀ i < k, f i = g i) : Ts f k = Ts g k := by
  unfold Ts Ds
  exact List.map_congr_left fun i hi => by rw [h i (List.mem_range.1 hi)]
theorem Ts_last {f : Nat → List Nat} {k : Nat} : atI (Ts f (k + 1)) (-1) = some (.str (tx (f k))) := by
  have e : atI (Ts f (k + 1)) (-((1 : Nat) : Int)) = _ := atI_neg (by omega) (by rw [Ts_length]; omega)
  refine e.trans ?_
  rw [Ts_length, Ts_succ, show k + 1 - 1 = (Ts f k).length by simp]
  simp
theorem enum_Ts (f : Nat → List Nat) (k : Nat) (st : Sto) : items .enum [.tup (Ts f k)] st = some (Ds (fun i => .tup [.int (i : Nat), .str (tx (f i))]) k, []) := by
  rw [items_enumT]
  congr 2
  refine List.ext_getElem (by simp) fun i h1 h2 => ?_
  have h3 : i < k := by simpa using h2
  simp [Ts]
@[simp] theorem slop_tupA (l : List D) (i : Int) (st : Sto) : slop (.tup l) (some (.int i)) none st = ok (.tup (cutD l (some i) none)) st := (rfl)
@[simp] theorem slop_tupB (l : List D) (i : Int) (st : Sto) : slop (.tup l) none (some (.int i)) st = ok (.tup (cutD l none (some i))) st := (rfl)
@[simp] theorem slop_tupC (l : List D) (i j : Int) (st : Sto) : slop (.tup l) (some (.int i)) (some (.int j)) st = ok (.tup (cutD l (some i) (some j))) st := (rfl)
end MP

set_option Elab.async false
set_option linter.all false
set_option maxRecDepth 100000
set_option maxHeartbeats 0
namespace K81
open PySem L2 MP
def top (i : Nat) : Stmt := PySem.Challenge.pw_lastfigure_k81_heads.main.body.getD i (.Pass ⟨0, 0, 0, 0⟩)
def clsAt (s : Stmt) (j : Nat) : Stmt := match s with
  | .ClassDef _ _ _ b _ _ _ _ _ _ _ => b.getD j (.Pass ⟨0, 0, 0, 0⟩)
  | s => s
def b_words_of : List S := [
  .asg (.v 2) (.bi .str [(.bi .abs [(.v 0)])]),
  .asg (.v 2) (.bin .Add (.bin .Mult (.str "0") (.bin .Sub (.bin .Add (.v 1) (.int 1)) (.bi .len [(.v 2)]))) (.v 2)),
  .asg (.v 3) (.ife (.cmp .Lt (.v 0) (.int 0)) (.str "-") (.str "")),
  .ife (.cmp .Eq (.v 1) (.int 0)) [
    .ret (.bin .Add (.v 3) (.v 2))] [],
  .ret (.bin .Add (.bin .Add (.bin .Add (.v 3) (.slB (.v 2) (.neg (.v 1)))) (.str ".")) (.slA (.v 2) (.neg (.v 1))))]
def e_words_of : DE := ⟨⟨("words_of", none), "words_of", "words_of", defArgs (top 6), defBody (top 6), defScope (top 6), [], []⟩, ["y", "places"], ["y", "places", "figures", "sign"], b_words_of⟩
def b_number_of : List S := [
  .asg (.v 2) (.ife (.cmp .Eq (.slB (.v 0) (.int 1)) (.str "-")) (.slA (.v 0) (.int 1)) (.v 0)),
  .asg (.v 2) (.rpl (.v 2) "." ""),
  .ife (.or (.not (.chain .LtE .LtE (.int 1) (.bi .len [(.v 2)]) (.lit (.int 4000)))) (.not (.tru (.agg .all (.cmp .In (.v 5) (.lit (.str "0123456789"))) (.v 5) .seq [(.v 2)] [5])))) [
    .rse "BadText" ["line"] [(.int 1)]] [],
  .asg (.v 3) (.bi .int [(.v 2)]),
  .asg (.v 4) (.ife (.cmp .Eq (.slB (.v 0) (.int 1)) (.str "-")) (.neg (.v 3)) (.v 3)),
  .ife (.cmp .NotEq (.call "words_of" [(.v 4), (.v 1)] []) (.v 0)) [
    .rse "BadText" ["line"] [(.int 1)]] [],
  .ret (.v 4)]
def e_number_of : DE := ⟨⟨("number_of", none), "number_of", "number_of", defArgs (top 7), defBody (top 7), defScope (top 7), [], []⟩, ["text", "places"], ["text", "places", "figures", "number", "y", "sign"], b_number_of⟩
def b_told_from : List S := [
  .asg (.v 1) (.comp (.v 2) (.tup [(.v 2), (.v 3)]) .enum [(.v 0)] [(.cmp .In (.v 3) (.lit (.str "0123456789")))] [2, 3]),
  .ret (.ife (.cmp .Gt (.bi .len [(.v 1)]) (.int 1)) (.ix (.v 1) (.neg (.int 2))) (.int 0))]
def e_told_from : DE := ⟨⟨("told_from", none), "told_from", "told_from", defArgs (top 11), defBody (top 11), defScope (top 11), [], []⟩, ["words"], ["words", "places", "place", "sign"], b_told_from⟩
def b_same_signs : List S := [
  .asg (.v 2) (.int 0),
  .whl (.and (.cmp .Lt (.v 2) (.bi .min [(.bi .len [(.v 0)]), (.bi .len [(.v 1)])])) (.cmp .Eq (.ix (.v 0) (.v 2)) (.ix (.v 1) (.v 2)))) [
    .aug 2 .Add (.int 1)],
  .ret (.v 2)]
def e_same_signs : DE := ⟨⟨("same_signs", none), "same_signs", "same_signs", defArgs (top 12), defBody (top 12), defScope (top 12), [], []⟩, ["words", "ahead"], ["words", "ahead", "many"], b_same_signs⟩
def b_head_of : List S := [
  .ife (.or (.cmp .Is (.v 1) .non) (.cmp .Eq (.bin .Mod (.v 2) (.int 10)) (.int 0))) [
    .ret (.v 0)] [],
  .asg (.v 3) (.bi .min [(.call "same_signs" [(.v 0), (.v 1)] []), (.call "told_from" [(.v 0)] [])]),
  .ret (.bin .Add (.bin .Mult (.str " ") (.v 3)) (.slA (.v 0) (.v 3)))]
def e_head_of : DE := ⟨⟨("head_of", none), "head_of", "head_of", defArgs (top 13), defBody (top 13), defScope (top 13), [], []⟩, ["words", "ahead", "number"], ["words", "ahead", "number", "many"], b_head_of⟩
def b_heads : List S := [
  .par [3, 4] [(.lst []), .non],
  .for_ (.tup [(.v 5), (.v 6)]) .enum [(.v 0)] [
    .asg (.v 7) (.call "words_of" [(.v 6), (.v 1)] []),
    .expr (.mt .append (.v 3) [(.call "head_of" [(.v 7), (.v 4), (.bin .Add (.v 2) (.v 5))] [])]),
    .asg (.v 4) (.v 7)],
  .ret (.bi .tuple [(.v 3)])]
def e_heads : DE := ⟨⟨("heads", none), "heads", "heads", defArgs (top 14), defBody (top 14), defScope (top 14), [], []⟩, ["prints", "places", "first"], ["prints", "places", "first", "found", "ahead", "place", "y", "words"], b_heads⟩
def b_places_of : List S := [
  .ret (.ife (.cmp .In (.str ".") (.v 0)) (.bin .Sub (.bin .Sub (.bi .len [(.v 0)]) (.mt .index (.v 0) [(.str ".")])) (.int 1)) (.int 0))]
def e_places_of : DE := ⟨⟨("places_of", none), "places_of", "places_of", defArgs (top 15), defBody (top 15), defScope (top 15), [], []⟩, ["words"], ["words"], b_places_of⟩
def b_is_words : List S := [
  .try_ false 0 (.call "number_of" [(.v 0), (.v 1)] []) [(["BadText"], (.bl false))],
  .ret (.bl true)]
def e_is_words : DE := ⟨⟨("is_words", none), "is_words", "is_words", defArgs (top 16), defBody (top 16), defScope (top 16), [], []⟩, ["words", "places"], ["words", "places"], b_is_words⟩
def b_unheads : List S := [
  .par [2, 3] [(.lst []), (.int 0)],
  .for_ (.tup [(.v 4), (.v 5)]) .enum [(.v 0)] [
    .asg (.v 6) (.ife (.tru (.v 2)) (.ix (.v 2) (.neg (.int 1))) .non),
    .asg (.v 7) (.bin .Sub (.bi .len [(.v 5)]) (.bi .len [(.mt .lstrip (.v 5) [(.str " ")])])),
    .asg (.v 8) (.ife (.cmp .Is (.v 6) .non) (.v 5) (.bin .Add (.slB (.v 6) (.v 7)) (.slA (.v 5) (.v 7)))),
    .asg (.v 3) (.ife (.tru (.v 2)) (.v 3) (.call "places_of" [(.v 8)] [])),
    .ife (.or (.cmp .Gt (.v 3) (.lit (.int 40))) (.or (.not (.tru (.call "is_words" [(.v 8), (.v 3)] []))) (.cmp .NotEq (.call "head_of" [(.v 8), (.v 6), (.bin .Add (.v 1) (.v 4))] []) (.v 5)))) [
      .rse "BadText" ["line"] [(.bin .Add (.v 4) (.int 1))]] [],
    .expr (.mt .append (.v 2) [(.v 8)])],
  .ret (.bi .tuple [(.v 2)])]
def e_unheads : DE := ⟨⟨("unheads", none), "unheads", "unheads", defArgs (top 17), defBody (top 17), defScope (top 17), [], []⟩, ["texts", "first"], ["texts", "first", "found", "places", "place", "text", "ahead", "many", "words"], b_unheads⟩
def b__law_mixed : List S := [
  .asg (.v 2) (.bin .Mod (.bi .int [(.bin .Add (.bin .Add (.bin .Mult (.v 0) (.int 48271)) (.bin .Mult (.v 1) (.int 69621))) (.int 12345))]) (.int 2147483647)),
  .asg (.v 3) (.bin .Mod (.bi .int [(.bin .Add (.bin .Add (.bin .Mult (.v 2) (.v 2)) (.bin .Mult (.v 1) (.int 40692))) (.bin .FloorDiv (.v 2) (.int 7)))]) (.int 2147483399)),
  .ret (.bin .Mod (.bi .int [(.bin .Add (.bin .Add (.bin .Mult (.v 3) (.int 16807)) (.bin .FloorDiv (.v 3) (.int 1013))) (.v 1))]) (.int 998244353))]
def e__law_mixed : DE := ⟨⟨("_law_mixed", none), "_law_mixed", "_law_mixed", defArgs (top 19), defBody (top 19), defScope (top 19), [], []⟩, ["cell", "trip"], ["cell", "trip", "one", "two"], b__law_mixed⟩
def b__law_draw : List S := [
  .setIx (.v 0) (.int 3) (.bin .Add (.ix (.v 0) (.int 3)) (.int 1)),
  .asg (.v 2) (.ix (.v 0) (.int 0)),
  .ife (.cmp .Eq (.bi .len [(.v 2)]) (.int 0)) [
    .ret (.bin .Mod (.bi .int [(.call "_law_mixed" [(.int 0), (.ix (.v 0) (.int 3))] [])]) (.v 1))] [],
  .ife (.and (.cmp .Eq (.ix (.v 0) (.int 4)) (.int 0)) (.and (.cmp .Eq (.ix (.v 0) (.int 2)) (.int 0)) (.cmp .Lt (.ix (.v 0) (.int 1)) (.bi .len [(.v 2)])))) [
    .asg (.v 3) (.ix (.v 2) (.ix (.v 0) (.int 1))),
    .setIx (.v 0) (.int 1) (.bin .Add (.ix (.v 0) (.int 1)) (.int 1)),
    .ife (.cmp .Lt (.v 3) (.bin .Pow (.int 10) (.int 18))) [
      .ret (.bin .Mod (.bi .int [(.call "_law_mixed" [(.v 3), (.ix (.v 0) (.int 3))] [])]) (.v 1))] [],
    .setIx (.v 0) (.int 2) (.v 3),
    .setIx (.v 0) (.int 5) (.int 60)] [],
  .ife (.or (.cmp .Eq (.ix (.v 0) (.int 4)) (.int 1)) (.cmp .Eq (.ix (.v 0) (.int 2)) (.int 0))) [
    .ret (.bin .Mod (.bi .int [(.call "_law_mixed" [(.ix (.ix (.v 0) (.int 6)) (.bin .Mod (.bi .int [(.ix (.v 0) (.int 3))]) (.bi .len [(.v 2)]))), (.ix (.v 0) (.int 3))] [])]) (.v 1))] [],
  .asg (.v 4) (.bin .Mod (.bi .int [(.ix (.v 0) (.int 2))]) (.v 1)),
  .setIx (.v 0) (.int 5) (.bin .Sub (.ix (.v 0) (.int 5)) (.int 1)),
  .setIx (.v 0) (.int 2) (.bin .Mult (.bin .FloorDiv (.bi .int [(.ix (.v 0) (.int 2))]) (.v 1)) (.bi .int [(.cmp .Gt (.ix (.v 0) (.int 5)) (.int 0))])),
  .ret (.v 4)]
def e__law_draw : DE := ⟨⟨("_law_draw", none), "_law_draw", "_law_draw", defArgs (top 20), defBody (top 20), defScope (top 20), [], []⟩, ["bag", "limit"], ["bag", "limit", "cells", "cell", "found"], b__law_draw⟩
def b__law_start : List S := [
  .asg (.v 1) (.lst [(.bi .list [(.v 0)]), (.int 0), (.int 0), (.int 0), (.int 0), (.int 0), (.comp (.bin .Mod (.bi .int [(.v 2)]) (.int 2147483647)) (.v 2) .seq [(.v 0)] [] [2])]),
  .ife (.or (.cmp .Eq (.bi .len [(.v 0)]) (.int 0)) (.cmp .Eq (.bin .Mod (.bi .int [(.ix (.v 0) (.int 0))]) (.int 2)) (.int 1))) [
    .setIx (.v 1) (.int 4) (.int 1)] [],
  .expr (.call "_law_draw" [(.v 1), (.int 2)] []),
  .ret (.v 1)]
def e__law_start : DE := ⟨⟨("_law_start", none), "_law_start", "_law_start", defArgs (top 21), defBody (top 21), defScope (top 21), [], []⟩, ["script"], ["script", "bag", "cell"], b__law_start⟩
def b__law_same : List S := [
  .ife (.tru (.isi (.v 1) .tuple)) [
    .ife (.or (.not (.tru (.isi (.v 0) .tuple))) (.cmp .NotEq (.bi .len [(.v 0)]) (.bi .len [(.v 1)]))) [
      .ret (.bl false)] [],
    .for_ (.v 2) .rng1 [(.bi .len [(.v 1)])] [
      .ife (.not (.tru (.call "_law_same" [(.ix (.v 0) (.v 2)), (.ix (.v 1) (.v 2))] []))) [
        .ret (.bl false)] []],
    .ret (.bl true)] [],
  .ife (.cmp .Is (.v 1) .non) [
    .ret (.cmp .Is (.v 0) .non)] [],
  .ife (.tru (.isi (.v 1) .bool)) [
    .ret (.and (.isi (.v 0) .bool) (.cmp .Eq (.v 0) (.v 1)))] [],
  .ife (.tru (.isi (.v 1) .str)) [
    .ret (.and (.isi (.v 0) .str) (.cmp .Eq (.v 0) (.v 1)))] [],
  .ret (.and (.isi (.v 0) .int) (.and (.not (.isi (.v 0) .bool)) (.cmp .Eq (.v 0) (.v 1))))]
def e__law_same : DE := ⟨⟨("_law_same", none), "_law_same", "_law_same", defArgs (top 22), defBody (top 22), defScope (top 22), [], []⟩, ["actual", "due"], ["actual", "due", "k"], b__law_same⟩
def b__law_words : List S := [
  .asg (.v 2) (.bi .str [(.bi .abs [(.v 0)])]),
  .ife (.cmp .Gt (.v 1) (.int 0)) [
    .asg (.v 2) (.bin .Add (.bin .Mult (.str "0") (.bi .max [(.int 0), (.bin .Sub (.bin .Add (.v 1) (.int 1)) (.bi .len [(.v 2)]))])) (.v 2)),
    .asg (.v 2) (.bin .Add (.bin .Add (.slB (.v 2) (.bin .Sub (.bi .len [(.v 2)]) (.v 1))) (.str ".")) (.slA (.v 2) (.bin .Sub (.bi .len [(.v 2)]) (.v 1))))] [],
  .ret (.bin .Add (.ife (.cmp .Lt (.v 0) (.int 0)) (.str "-") (.str "")) (.v 2))]
def e__law_words : DE := ⟨⟨("_law_words", none), "_law_words", "_law_words", defArgs (top 23), defBody (top 23), defScope (top 23), [], []⟩, ["y", "places"], ["y", "places", "text"], b__law_words⟩
def b__law_short : List S := [
  .asg (.v 3) (.comp (.v 2) (.v 2) .rng1 [(.bi .len [(.v 0)])] [(.cmp .In (.ix (.v 0) (.v 2)) (.str "0123456789"))] [2]),
  .ife (.cmp .Lt (.bi .len [(.v 3)]) (.int 2)) [
    .ret (.v 0)] [],
  .asg (.v 4) (.int 0),
  .for_ (.v 2) .rng1 [(.bi .min [(.ix (.v 3) (.neg (.int 2))), (.bi .len [(.v 1)])])] [
    .ife (.cmp .NotEq (.ix (.v 0) (.v 2)) (.ix (.v 1) (.v 2))) [
      .brk] [],
    .asg (.v 4) (.bin .Add (.v 4) (.int 1))],
  .ret (.bin .Add (.bin .Mult (.str " ") (.v 4)) (.slA (.v 0) (.v 4)))]
def e__law_short : DE := ⟨⟨("_law_short", none), "_law_short", "_law_short", defArgs (top 24), defBody (top 24), defScope (top 24), [], []⟩, ["words", "elder"], ["words", "elder", "k", "places", "same"], b__law_short⟩
def b__law_page : List S := [
  .par [1, 2] [(.call "_law_draw" [(.v 0), (.int 7)] []), (.lst [])],
  .asg (.v 3) (.bin .Sub (.call "_law_draw" [(.v 0), (.ix (.lst [(.int 30), (.int 4000), (.int 2000000)]) (.call "_law_draw" [(.v 0), (.int 3)] []))] []) (.ix (.lst [(.int 0), (.int 15), (.int 2000)]) (.call "_law_draw" [(.v 0), (.int 3)] []))),
  .asg (.v 4) (.ix (.lst [(.int 0), (.int 1), (.int 2), (.int 3), (.int 40), (.int 5000), (.bin .Sub (.int 0) (.int 1)), (.bin .Sub (.int 0) (.int 7))]) (.call "_law_draw" [(.v 0), (.int 8)] [])),
  .for_ (.v 5) .rng1 [(.bin .Add (.int 1) (.call "_law_draw" [(.v 0), (.int 30)] []))] [
    .expr (.mt .append (.v 2) [(.v 3)]),
    .asg (.v 3) (.bin .Add (.bin .Add (.v 3) (.v 4)) (.call "_law_draw" [(.v 0), (.int 3)] []))],
  .ret (.tup [(.bi .tuple [(.v 2)]), (.v 1), (.bin .Sub (.call "_law_draw" [(.v 0), (.int 51)] []) (.int 25))])]
def e__law_page : DE := ⟨⟨("_law_page", none), "_law_page", "_law_page", defArgs (top 25), defBody (top 25), defScope (top 25), [], []⟩, ["bag"], ["bag", "places", "made", "y", "step", "k"], b__law_page⟩
def b__law_refused : List S := [
  .try_ false 3 (.call "unheads" [(.v 0), (.v 1)] []) [(["BadText"], (.ite (.isx ["BadText"]) (.fld "line") (.sub (.int 0) (.int 1))))],
  .ret (.int 0)]
def e__law_refused : DE := ⟨⟨("_law_refused", none), "_law_refused", "_law_refused", defArgs (top 26), defBody (top 26), defScope (top 26), [], []⟩, ["texts", "first"], ["texts", "first", "e"], b__law_refused⟩
def b__law_bent : List S := [
  .asg (.v 5) (.ix (.v 1) (.v 4)),
  .asg (.v 6) (.bin .Sub (.bi .len [(.v 5)]) (.bi .len [(.mt .lstrip (.v 5) [(.str " ")])])),
  .asg (.v 7) (.call "_law_draw" [(.v 0), (.int 7)] []),
  .ife (.and (.cmp .Eq (.v 7) (.int 6)) (.or (.cmp .Eq (.v 4) (.int 0)) (.cmp .Eq (.bin .Mod (.bi .int [(.bin .Add (.v 3) (.v 4))]) (.int 10)) (.int 0)))) [
    .ret (.ife (.tru (.mt .startswith (.v 5) [(.str "-")])) (.bin .Add (.str "-0") (.slA (.v 5) (.int 1))) (.bin .Add (.str "0") (.v 5)))] [],
  .asg (.v 8) (.comp (.v 9) (.v 9) .rng1 [(.bi .len [(.ix (.v 2) (.v 4))])] [(.cmp .In (.ix (.ix (.v 2) (.v 4)) (.v 9)) (.str "0123456789"))] [9]),
  .ife (.and (.cmp .Eq (.v 7) (.int 5)) (.and (.cmp .Gt (.bi .len [(.v 8)]) (.int 1)) (.and (.cmp .Eq (.v 6) (.ix (.v 8) (.neg (.int 2)))) (.and (.cmp .Gt (.v 4) (.int 0)) (.cmp .NotEq (.bin .Mod (.bi .int [(.bin .Add (.v 3) (.v 4))]) (.int 10)) (.int 0)))))) [
    .ret (.bin .Add (.bin .Mult (.str " ") (.bin .Add (.v 6) (.int 1))) (.slA (.v 5) (.bin .Add (.v 6) (.int 1))))] [],
  .ife (.and (.cmp .Eq (.v 7) (.int 0)) (.cmp .Gt (.v 6) (.int 0))) [
    .ret (.bin .Add (.bin .Mult (.str " ") (.bin .Sub (.v 6) (.int 1))) (.slA (.ix (.v 2) (.v 4)) (.bin .Sub (.v 6) (.int 1))))] [],
  .ife (.cmp .Eq (.v 7) (.int 1)) [
    .ret (.bin .Add (.slB (.v 5) (.neg (.int 1))) (.str "x"))] [],
  .ife (.and (.cmp .Eq (.v 7) (.int 2)) (.or (.cmp .Eq (.v 4) (.int 0)) (.cmp .Eq (.bin .Mod (.bi .int [(.bin .Add (.v 3) (.v 4))]) (.int 10)) (.int 0)))) [
    .ret (.bin .Add (.str " ") (.v 5))] [],
  .ife (.cmp .Eq (.v 7) (.int 3)) [
    .ret (.str "")] [],
  .ife (.and (.cmp .Eq (.v 7) (.int 4)) (.and (.cmp .Gt (.v 4) (.int 0)) (.cmp .In (.str ".") (.ix (.v 2) (.v 4))))) [
    .ret (.bin .Add (.v 5) (.str "0"))] [],
  .ret (.bin .Add (.slB (.v 5) (.neg (.int 1))) (.ix (.lst [(.str ","), (.str "-"), (.str "+"), (.str "x")]) (.call "_law_draw" [(.v 0), (.int 4)] [])))]
def e__law_bent : DE := ⟨⟨("_law_bent", none), "_law_bent", "_law_bent", defArgs (top 27), defBody (top 27), defScope (top 27), [], []⟩, ["bag", "texts", "words", "first", "k"], ["bag", "texts", "words", "first", "k", "text", "blanks", "way", "figures_at", "j"], b__law_bent⟩
def b_law : List S := [
  .asg (.v 1) (.call "_law_start" [(.v 0)] []),
  .for_ (.v 2) .rng1 [(.int 3)] [
    .asg (.tup [(.v 3), (.v 4), (.v 5)]) (.call "_law_page" [(.v 1)] []),
    .asg (.v 6) (.bi .tuple [(.comp (.call "_law_words" [(.v 12), (.v 4)] []) (.v 12) .seq [(.v 3)] [] [12])]),
    .asg (.v 7) (.lst []),
    .for_ (.v 8) .rng1 [(.bi .len [(.v 6)])] [
      .asg (.v 9) (.or (.cmp .Eq (.v 8) (.int 0)) (.cmp .Eq (.bin .Mod (.bi .int [(.bin .Add (.v 5) (.v 8))]) (.int 10)) (.int 0))),
      .expr (.mt .append (.v 7) [(.ife (.tru (.v 9)) (.ix (.v 6) (.v 8)) (.call "_law_short" [(.ix (.v 6) (.v 8)), (.ix (.v 6) (.bin .Sub (.v 8) (.int 1)))] []))])],
    .asg (.v 7) (.bi .tuple [(.v 7)]),
    .ife (.not (.tru (.call "_law_same" [(.tup [(.call "heads" [(.v 3), (.v 4), (.v 5)] []), (.call "heads" [(.v 5), (.v 4), (.v 3)] [2, 1, 0])]), (.tup [(.v 7), (.v 7)])] []))) [
      .ret (.bl false)] [],
    .ife (.not (.tru (.call "_law_same" [(.tup [(.call "unheads" [(.v 7), (.v 5)] []), (.call "unheads" [(.v 5), (.v 7)] [1, 0])]), (.tup [(.v 6), (.v 6)])] []))) [
      .ret (.bl false)] [],
    .for_ (.v 10) .rng1 [(.int 3)] [
      .asg (.v 8) (.call "_law_draw" [(.v 1), (.bi .len [(.v 7)])] []),
      .asg (.v 11) (.bin .Add (.bin .Add (.slB (.v 7) (.v 8)) (.tup [(.call "_law_bent" [(.v 1), (.v 7), (.v 6), (.v 5), (.v 8)] [])])) (.slA (.v 7) (.bin .Add (.v 8) (.int 1)))),
      .ife (.not (.tru (.call "_law_same" [(.call "_law_refused" [(.v 11), (.v 5)] []), (.bin .Add (.v 8) (.int 1))] []))) [
        .ret (.bl false)] []]],
  .ret (.bl true)]
def e_law : DE := ⟨⟨("law", none), "law", "law", defArgs (top 28), defBody (top 28), defScope (top 28), [], []⟩, ["script"], ["script", "bag", "trip", "prints", "places", "first", "words", "texts", "k", "is_whole", "place", "bent", "y"], b_law⟩
def tab : Tab := ⟨[(("words_of" : Str), e_words_of), (("number_of" : Str), e_number_of), (("told_from" : Str), e_told_from), (("same_signs" : Str), e_same_signs), (("head_of" : Str), e_head_of), (("heads" : Str), e_heads), (("places_of" : Str), e_places_of), (("is_words" : Str), e_is_words), (("unheads" : Str), e_unheads), (("_law_mixed" : Str), e__law_mixed), (("_law_draw" : Str), e__law_draw), (("_law_start" : Str), e__law_start), (("_law_same" : Str), e__law_same), (("_law_words" : Str), e__law_words), (("_law_short" : Str), e__law_short), (("_law_page" : Str), e__law_page), (("_law_refused" : Str), e__law_refused), (("_law_bent" : Str), e__law_bent), (("law" : Str), e_law)], [], ["str", "abs", "len", "all", "int", "enumerate", "min", "tuple", "list", "isinstance", "range", "bool", "max"], [], [("FIGURES_prints", (.str "0123456789")), ("MOST_SIGNS", (.int 4000)), ("FIGURES_layout", (.str "0123456789")), ("MOST_PLACES", (.int 40))], [], [], [], [("number_of", none)], [⟨"FigureError", none, false, ["FigureError"]⟩, ⟨"BadText", some "line", true, ["BadText", "FigureError"]⟩], "/claim/cut.py"⟩
theorem c_words_of : cB 60 (tab.cc e_words_of) e_words_of.d.body = some b_words_of := by kernel_rfl
theorem c_number_of : cB 60 (tab.cc e_number_of) e_number_of.d.body = some b_number_of := by kernel_rfl
theorem c_told_from : cB 60 (tab.cc e_told_from) e_told_from.d.body = some b_told_from := by kernel_rfl
theorem c_same_signs : cB 60 (tab.cc e_same_signs) e_same_signs.d.body = some b_same_signs := by kernel_rfl
theorem c_head_of : cB 60 (tab.cc e_head_of) e_head_of.d.body = some b_head_of := by kernel_rfl
theorem c_heads : cB 60 (tab.cc e_heads) e_heads.d.body = some b_heads := by kernel_rfl
theorem c_places_of : cB 60 (tab.cc e_places_of) e_places_of.d.body = some b_places_of := by kernel_rfl
theorem c_is_words : cB 60 (tab.cc e_is_words) e_is_words.d.body = some b_is_words := by kernel_rfl
theorem c_unheads : cB 60 (tab.cc e_unheads) e_unheads.d.body = some b_unheads := by kernel_rfl
theorem c__law_mixed : cB 60 (tab.cc e__law_mixed) e__law_mixed.d.body = some b__law_mixed := by kernel_rfl
theorem c__law_draw : cB 60 (tab.cc e__law_draw) e__law_draw.d.body = some b__law_draw := by kernel_rfl
theorem c__law_start : cB 60 (tab.cc e__law_start) e__law_start.d.body = some b__law_start := by kernel_rfl
theorem c__law_same : cB 60 (tab.cc e__law_same) e__law_same.d.body = some b__law_same := by kernel_rfl
theorem c__law_words : cB 60 (tab.cc e__law_words) e__law_words.d.body = some b__law_words := by kernel_rfl
theorem c__law_short : cB 60 (tab.cc e__law_short) e__law_short.d.body = some b__law_short := by kernel_rfl
theorem c__law_page : cB 60 (tab.cc e__law_page) e__law_page.d.body = some b__law_page := by kernel_rfl
theorem c__law_refused : cB 60 (tab.cc e__law_refused) e__law_refused.d.body = some b__law_refused := by kernel_rfl
theorem c__law_bent : cB 60 (tab.cc e__law_bent) e__law_bent.d.body = some b__law_bent := by kernel_rfl
theorem c_law : cB 60 (tab.cc e_law) e_law.d.body = some b_law := by kernel_rfl
theorem comps : ∀ p ∈ tab.all, ∃ n, cB n (tab.cc p.2) p.2.d.body = some p.2.body := by
  intro p hp
  simp only [Tab.all, tab, List.mem_append, List.mem_cons, List.not_mem_nil, or_false, or_assoc] at hp
  rcases hp with rfl | rfl | rfl | rfl | rfl | rfl | rfl | rfl | rfl | rfl | rfl | rfl | rfl | rfl | rfl | rfl | rfl | rfl | rfl
  · exact ⟨60, c_words_of⟩
  · exact ⟨60, c_number_of⟩
  · exact ⟨60, c_told_from⟩
  · exact ⟨60, c_same_signs⟩
  · exact ⟨60, c_head_of⟩
  · exact ⟨60, c_heads⟩
  · exact ⟨60, c_places_of⟩
  · exact ⟨60, c_is_words⟩
  · exact ⟨60, c_unheads⟩
  · exact ⟨60, c__law_mixed⟩
  · exact ⟨60, c__law_draw⟩
  · exact ⟨60, c__law_start⟩
  · exact ⟨60, c__law_same⟩
  · exact ⟨60, c__law_words⟩
  · exact ⟨60, c__law_short⟩
  · exact ⟨60, c__law_page⟩
  · exact ⟨60, c__law_refused⟩
  · exact ⟨60, c__law_bent⟩
  · exact ⟨60, c_law⟩
theorem oks : tab.chk = true := by decide +kernel
theorem P_words_of : tab.P "words_of" = some ⟨2, 4, b_words_of⟩ := by kernel_rfl
theorem P_number_of : tab.P "number_of" = some ⟨2, 6, b_number_of⟩ := by kernel_rfl
theorem P_told_from : tab.P "told_from" = some ⟨1, 4, b_told_from⟩ := by kernel_rfl
theorem P_same_signs : tab.P "same_signs" = some ⟨2, 3, b_same_signs⟩ := by kernel_rfl
theorem P_head_of : tab.P "head_of" = some ⟨3, 4, b_head_of⟩ := by kernel_rfl
theorem P_heads : tab.P "heads" = some ⟨3, 8, b_heads⟩ := by kernel_rfl
theorem P_places_of : tab.P "places_of" = some ⟨1, 1, b_places_of⟩ := by kernel_rfl
theorem P_is_words : tab.P "is_words" = some ⟨2, 2, b_is_words⟩ := by kernel_rfl
theorem P_unheads : tab.P "unheads" = some ⟨2, 9, b_unheads⟩ := by kernel_rfl
theorem P__law_mixed : tab.P "_law_mixed" = some ⟨2, 4, b__law_mixed⟩ := by kernel_rfl
theorem P__law_draw : tab.P "_law_draw" = some ⟨2, 5, b__law_draw⟩ := by kernel_rfl
theorem P__law_start : tab.P "_law_start" = some ⟨1, 3, b__law_start⟩ := by kernel_rfl
theorem P__law_same : tab.P "_law_same" = some ⟨2, 3, b__law_same⟩ := by kernel_rfl
theorem P__law_words : tab.P "_law_words" = some ⟨2, 3, b__law_words⟩ := by kernel_rfl
theorem P__law_short : tab.P "_law_short" = some ⟨2, 5, b__law_short⟩ := by kernel_rfl
theorem P__law_page : tab.P "_law_page" = some ⟨1, 6, b__law_page⟩ := by kernel_rfl
theorem P__law_refused : tab.P "_law_refused" = some ⟨2, 3, b__law_refused⟩ := by kernel_rfl
theorem P__law_bent : tab.P "_law_bent" = some ⟨5, 10, b__law_bent⟩ := by kernel_rfl
theorem P_law : tab.P "law" = some ⟨1, 13, b_law⟩ := by kernel_rfl
end K81

set_option Elab.async false
set_option linter.all false
set_option maxRecDepth 100000
set_option maxHeartbeats 4000000
namespace K81
open PySem MP
@[simp] theorem l0 : Str.ofString "" = tx [] := by decide +kernel
@[simp] theorem lz : Str.ofString "0" = tx [48] := by decide +kernel
@[simp] theorem lm : Str.ofString "-" = tx [45] := by decide +kernel
@[simp] theorem lp : Str.ofString "." = tx [46] := by decide +kernel
@[simp] theorem lb : Str.ofString " " = tx [32] := by decide +kernel
@[simp] theorem ld : Str.ofString "0123456789" = tx [48, 49, 50, 51, 52, 53, 54, 55, 56, 57] := by decide +kernel
def pad (n p : Nat) : List Nat := List.replicate (p + 1 - (dig n).length) 48 ++ dig n
def body (n p : Nat) : List Nat := if p = 0 then pad n p else (pad n p).take ((pad n p).length - p) ++ ([46] ++ (pad n p).drop ((pad n p).length - p))
def sgn (y : Int) : List Nat := if y < 0 then [45] else []
/-- the text of a print -/
def W (y : Int) (p : Nat) : List Nat := sgn y ++ body y.natAbs p
theorem abs_small {y : Int} (h : y.natAbs < 10 ^ 500) : (if y < 0 then -y else y).natAbs.log2 < 1920 := by
  have e : (if y < 0 then -y else y).natAbs = y.natAbs := by split <;> omega
  rw [e]
  by_cases c : y.natAbs = 0
  · rw [c]; decide
  · exact (Nat.log2_lt c).2 (Nat.lt_of_lt_of_le h (by decide +kernel))
theorem intL_abs (y : Int) : intL (if y < 0 then -y else y) = dig y.natAbs := by
  have e : (if y < 0 then -y else y) = (y.natAbs : Int) := by split <;> omega
  rw [e, intL_nat]
theorem pad_len (n p : Nat) : p + 1 ≤ (pad n p).length := by
  unfold pad
  simp; omega
theorem pad_le (n p : Nat) : (pad n p).length ≤ p + 1 + (dig n).length := by
  unfold pad
  simp
theorem words_of_ok {n : Nat} {y : Int} {p : Nat} {st : Sto} (hy : y.natAbs < 10 ^ 500) (hp : p ≤ 400) : call tab.P (n + 1) "words_of" [.int y, .int (p : Int)] st = ok (.str (tx (W y p))) st := by
  refine RX_eq (RX_call P_words_of rfl ?_)
  unfold b_words_of
  have hd : (dig y.natAbs).length ≤ 500 := (dig_len (by omega)).2 hy
  have h1 := abs_small hy
  have h2 : -1000 ≤ (p : Int) + 1 - ((dig y.natAbs).length : Int) ∧ (p : Int) + 1 - ((dig y.natAbs).length : Int) ≤ 1000 := by omega
  have h3 : ((p : Int) + 1 - ((dig y.natAbs).length : Int)).toNat = p + 1 - (dig y.natAbs).length := by omega
  have h5 : (pad y.natAbs p).length ≤ 1000 := Nat.le_trans (pad_le _ _) (by omega)
  have e5 : List.replicate (p + 1 - (dig y.natAbs).length) 48 ++ dig y.natAbs = pad y.natAbs p := rfl
  have h6 := pad_len y.natAbs p
  simp [h1, intL_abs, h2, h3, e5]
  have hW : W y p = sgn y ++ body y.natAbs p := rfl
  unfold sgn body at hW
  generalize pad y.natAbs p = q at *
  have cA : p ≠ 0 → cutD q (some (-(p : Int))) none = q.drop (q.length - p) := fun z => cut_fromN q (by omega)
  have cB : p ≠ 0 → cutD q none (some (-(p : Int))) = q.take (q.length - p) := fun z => cut_toN q (by omega)
  clear e5 h1 h2 h3
  have e1 : (q.drop (q.length - p)).length = p := by rw [List.length_drop]; omega
  have e2 : (q.take (q.length - p)).length = q.length - p := by rw [List.length_take]; omega
  refine ⟨by omega, by omega, fun c => ⟨fun p0 => ?_, fun p0 => ?_⟩, fun c => ⟨fun p0 => ?_, fun p0 => ?_⟩⟩
  · rw [hW, if_pos c, if_pos p0]
    exact ⟨by omega, rfl⟩
  · rw [hW, cA p0, cB p0, e1, e2, if_pos c, if_neg p0]
    exact ⟨by omega, by omega, by omega, by omega, by omega, rfl⟩
  · rw [hW, if_neg (by omega), if_pos p0]
    exact ⟨by omega, rfl⟩
  · rw [hW, cA p0, cB p0, e1, e2, if_neg (by omega), if_neg p0]
    exact ⟨by omega, by omega, by omega, by omega, by omega, rfl⟩
end K81

set_option Elab.async false
set_option linter.all false
set_option maxRecDepth 100000
set_option maxHeartbeats 4000000
namespace K81
open PySem MP
theorem law_words_ok {n : Nat} {y : Int} {p : Nat} {st : Sto} (hy : y.natAbs < 10 ^ 500) (hp : p ≤ 400) : call tab.P (n + 1) "_law_words" [.int y, .int (p : Int)] st = ok (.str (tx (W y p))) st := by
  refine RX_eq (RX_call P__law_words rfl ?_)
  unfold b__law_words
  have hd : (dig y.natAbs).length ≤ 500 := (dig_len (by omega)).2 hy
  have hd0 := dig_pos y.natAbs
  have h1 := abs_small hy
  have h2 : ∀ z : Int, z = (if ((dig y.natAbs).length : Int) < (p : Int) + 1 then (p : Int) + 1 - ((dig y.natAbs).length : Int) else 0) → (-1000 ≤ z ∧ z ≤ 1000) ∧ z.toNat = p + 1 - (dig y.natAbs).length := fun z e => by subst e; split <;> omega
  have h2 := h2 _ rfl
  have h5 : (pad y.natAbs p).length ≤ 1000 := Nat.le_trans (pad_le _ _) (by omega)
  have e5 : List.replicate (p + 1 - (dig y.natAbs).length) 48 ++ dig y.natAbs = pad y.natAbs p := rfl
  have h6 := pad_len y.natAbs p
  simp [h1, intL_abs, h2.1, h2.2, e5]
  have hW : W y p = sgn y ++ body y.natAbs p := rfl
  unfold sgn body at hW
  have e0 : p = 0 → pad y.natAbs p = dig y.natAbs := fun z => by
    unfold pad
    rw [show p + 1 - (dig y.natAbs).length = 0 by omega]; rfl
  generalize pad y.natAbs p = q at *
  have c1 : cutD q none (some ((q.length : Int) - (p : Int))) = q.take (q.length - p) := by rw [cut_to q (by omega)]; congr 1; omega
  have c2 : cutD q (some ((q.length : Int) - (p : Int))) none = q.drop (q.length - p) := by rw [cut_from q (by omega)]; congr 1; omega
  have e1 : (q.drop (q.length - p)).length = p := by rw [List.length_drop]; omega
  have e2 : (q.take (q.length - p)).length = q.length - p := by rw [List.length_take]; omega
  have h0 : p = 0 → dig y.natAbs = q := fun z => (e0 z).symm
  refine ⟨fun z => ?_, fun z => ⟨fun c => ?_, fun c => ?_⟩⟩
  · rw [if_neg (show ¬ p = 0 by omega)] at hW
    simp [c1, c2, e1, e2]
    refine ⟨by omega, by omega, by omega, by omega, by omega, by omega, fun c => ⟨by omega, ?_⟩, fun c => ⟨by omega, ?_⟩⟩
    · rw [hW, if_pos c]; rfl
    · rw [hW, if_neg (by omega)]; rfl
  · rw [hW, if_pos c, if_pos z, h0 z]
    exact ⟨by omega, rfl⟩
  · rw [hW, if_neg (by omega), if_pos z, h0 z]
    exact ⟨by omega, rfl⟩
@[simp] theorem gen_dg {C : CalT} {σ : MP.Env} {st : Sto} (l : List Nat) (hσ : 5 < σ.length) : genL (.v 5) σ (ev C (.cmp .In (.v 5) (.lit (.str (tx [48, 49, 50, 51, 52, 53, 54, 55, 56, 57]))))) st (l.map fun c => D.str (tx [c])) = some (l.map fun c => D.bl (isDg c)) := by
  rw [genL_map (fun d => match d with | .str s => .bl (isDg (s.cps.toList.headD 0)) | d => d)]
  · simp
  · intro d hd
    obtain ⟨c, _, rfl⟩ := List.mem_map.1 hd
    refine ⟨_, st, asgG_v _ _ _, ?_, gc_id (by simp)⟩
    have e : isDg c = decide (c ∈ [48, 49, 50, 51, 52, 53, 54, 55, 56, 57]) := by
      rw [Bool.eq_iff_iff]
      unfold isDg
      simp
      omega
    simp [hσ, e, tx]
/-- the figures of a text -/
def fig (t : List Nat) : List Nat := (if t.take 1 = [45] then t.tail else t).filter (· != 46)
theorem pad_dg (n p : Nat) : ∀ c ∈ pad n p, isDg c = true := fun c hc => by
  unfold pad at hc
  rcases List.mem_append.mp hc with h | h
  · rw [(List.mem_replicate.mp h).2]; rfl
  · exact dig_all n c h
theorem pad_val (n p : Nat) : val (pad n p) = n := by
  unfold pad
  rw [val_pad, val_dig]
theorem pad_ne (n p : Nat) : pad n p ≠ [] := fun h => by
  have := pad_len n p
  rw [h] at this
  simp at this
theorem filter_dg {l : List Nat} (h : ∀ c ∈ l, isDg c = true) : l.filter (· != 46) = l := by
  rw [List.filter_eq_self]
  intro c hc
  have := dg_ge (h c hc)
  simp; omega
theorem body_filter (n p : Nat) : (body n p).filter (· != 46) = pad n p := by
  unfold body
  split
  · exact filter_dg (pad_dg n p)
  · rw [List.filter_append, List.filter_append, filter_dg fun c hc => pad_dg n p c (List.mem_of_mem_take hc), filter_dg fun c hc => pad_dg n p c (List.mem_of_mem_drop hc)]
    show _ ++ ([] ++ _) = _
    rw [List.nil_append, List.take_append_drop]
theorem body_head (n p : Nat) : ∃ c r, body n p = c :: r ∧ isDg c = true := by
  have h := pad_len n p
  unfold body
  split
  · cases e : pad n p with
    | nil => exact absurd e (pad_ne n p)
    | cons c r => exact ⟨c, r, rfl, pad_dg n p c (by rw [e]; exact List.mem_cons_self)⟩
  · cases e : pad n p with
    | nil => exact absurd e (pad_ne n p)
    | cons c r =>
      rw [e] at h
      obtain ⟨k, hk⟩ : ∃ k, (c :: r).length - p = k + 1 := ⟨(c :: r).length - p - 1, by omega⟩
      rw [hk, List.take_succ_cons]
      exact ⟨c, _, rfl, pad_dg n p c (by rw [e]; exact List.mem_cons_self)⟩
theorem W_take (y : Int) (p : Nat) : ((W y p).take 1 = [45] ↔ y < 0) ∧ (y < 0 → (W y p).tail = body y.natAbs p) ∧ (¬ y < 0 → W y p = body y.natAbs p) := by
  unfold W sgn
  by_cases c : y < 0
  · rw [if_pos c]
    exact ⟨⟨fun _ => c, fun _ => rfl⟩, fun _ => rfl, fun z => absurd c z⟩
  · rw [if_neg c]
    obtain ⟨d, r, e, hd⟩ := body_head y.natAbs p
    have := dg_ge hd
    refine ⟨⟨fun z => ?_, fun z => absurd z c⟩, fun z => absurd z c, fun _ => rfl⟩
    rw [List.nil_append, e] at z
    simp at z
    omega
theorem fig_W (y : Int) (p : Nat) : fig (W y p) = pad y.natAbs p := by
  obtain ⟨h1, h2, h3⟩ := W_take y p
  unfold fig
  by_cases c : y < 0
  · rw [if_pos (h1.2 c), h2 c, body_filter]
  · rw [if_neg (fun z => c (h1.1 z)), h3 c, body_filter]
@[simp] theorem all_bl {l : List Nat} {g : Nat → Bool} {st : Sto} : agop .all (l.map fun c => D.bl (g c)) st = ok (.bl (l.all g)) st := by
  have h : ∀ l : List Nat, blsD (l.map fun c => D.bl (g c)) = some (l.map g) := by
    intro l
    induction l with
    | nil => rfl
    | cons a l ih =>
      rw [List.map_cons, List.map_cons]
      show (blsD (l.map fun c => D.bl (g c))).map (g a :: ·) = _
      rw [ih]; rfl
  have h2 : ∀ l : List Nat, (l.map g).all id = l.all g := by
    intro l
    induction l with
    | nil => rfl
    | cons a l ih => simp
  rw [agop_all (h l), h2]
theorem biInt_dg {l : List Nat} {st : Sto} (h1 : l.length ≤ 640) (h2 : ∀ c ∈ l, isDg c = true) (h3 : l ≠ []) : biop .int [.str (tx l)] st = ok (.int (val l)) st := by
  show (if (tx l).length ≤ 640 then _ else _) = _
  rw [len_tx, if_pos h1, intText_val h2 h3 (by omega)] <;> rfl
theorem val_lt : ∀ {l : List Nat}, (∀ c ∈ l, isDg c = true) → val l < 10 ^ l.length := by
  intro l
  induction hk : l.length generalizing l with
  | zero => intro _; rw [List.eq_nil_of_length_eq_zero hk]; decide
  | succ k ih =>
    intro h
    have hn : l ≠ [] := fun z => by rw [z] at hk; cases hk
    obtain ⟨l', c, rfl⟩ : ∃ l' c, l = l' ++ [c] := ⟨l.dropLast, l.getLast hn, (List.dropLast_concat_getLast hn).symm⟩
    have hc := dg_ge (h c (by simp))
    have := ih (l := l') (by simpa using hk) fun x hx => h x (List.mem_append_left _ hx)
    rw [val_snoc, Nat.pow_succ]
    omega
theorem number_of_ok {n : Nat} {t : List Nat} {p : Nat} {st : Sto} (ht : t.length ≤ 300) (hp : p ≤ 400) : RX (call tab.P (n + 2) "number_of" [.str (tx t), .int (p : Int)] st) fun x s => s = st ∧ ((∃ y, t = W y p ∧ x = .ok (.int y)) ∨ ((¬ ∃ y, t = W y p) ∧ x = .error ⟨"BadText", [("line", .int 1)]⟩)) := by
  refine RX_call P_number_of rfl ?_
  unfold b_number_of
  have hlf : (fig t).length ≤ 300 := by
    unfold fig
    refine Nat.le_trans (List.length_filter_le _ _) ?_
    split
    · rw [List.length_tail]; omega
    · exact ht
  -- what a print's text tells
  have no1 : fig t = [] → ∀ y, ¬ t = W y p := fun z y e => by rw [e, fig_W] at z; exact pad_ne _ _ z
  have no2 : ¬ (∀ c ∈ fig t, isDg c = true) → ∀ y, ¬ t = W y p := fun z y e => z fun c hc => by rw [e, fig_W] at hc; exact pad_dg _ _ c hc
  have same : ∀ y, t = W y p → y = if t.take 1 = [45] then -(val (fig t) : Int) else (val (fig t) : Int) := fun y e => by
    obtain ⟨h1, _, _⟩ := W_take y p
    rw [e, fig_W, pad_val]
    by_cases c : y < 0
    · rw [if_pos (h1.2 c)]; omega
    · rw [if_neg fun z => c (h1.1 z)]; omega
  have wo : ∀ y : Int, y.natAbs = val (fig t) → (∀ c ∈ fig t, isDg c = true) → call tab.P (n + 1) "words_of" [.int y, .int (p : Int)] st = ok (.str (tx (W y p))) st := fun y e hd => words_of_ok (by
    rw [e]
    exact Nat.lt_of_lt_of_le (val_lt hd) (Nat.pow_le_pow_right (by decide) (by omega))) hp
  have fin : ∀ z : Int, (∀ y, t = W y p → y = z) → (t = W z p ∨ ∀ x : Int, ¬ t = W x p) := fun z hz => by
    by_cases q : t = W z p
    · exact .inl q
    · exact .inr fun x e => q (by rw [← hz x e]; exact e)
  by_cases c : t.take 1 = [45]
  · have ef : t.tail.filter (fun x => x != 46) = fig t := by unfold fig; rw [if_pos c]
    have sm := same
    simp only [if_pos c] at sm
    have wo1 := fun h => wo (-(val (fig t) : Int)) (by omega) h
    simp [c, show t.length ≤ 16777216 by omega, show t.length ≤ 16777217 by omega, ef, wipe]
    refine ⟨by omega, fun h1 => ⟨(fun h => by omega), (fun _ => ⟨(fun x hx hd => no2 (fun h => by rw [h x hx] at hd; cases hd)), fun hd => ?_⟩)⟩, fun h => no1 (List.eq_nil_of_length_eq_zero (by omega))⟩
    have hn : fig t ≠ [] := fun z => by rw [z] at h1; simp at h1
    simp [biInt_dg (by omega) hd hn, c, wo1 hd, show t.length ≤ 16777216 by omega]
    have := fin _ sm
    grind
  · have ef : t.filter (fun x => x != 46) = fig t := by unfold fig; rw [if_neg c]
    have sm := same
    simp only [if_neg c] at sm
    have wo1 := fun h => wo (val (fig t) : Int) (by omega) h
    simp [c, show t.length ≤ 16777216 by omega, ef, wipe]
    refine ⟨by omega, fun h1 => ⟨(fun h => by omega), (fun _ => ⟨(fun x hx hd => no2 (fun h => by rw [h x hx] at hd; cases hd)), fun hd => ?_⟩)⟩, fun h => no1 (List.eq_nil_of_length_eq_zero (by omega))⟩
    have hn : fig t ≠ [] := fun z => by rw [z] at h1; simp at h1
    simp [biInt_dg (by omega) hd hn, c, wo1 hd, show t.length ≤ 16777216 by omega]
    have := fin _ sm
    grind
end K81

set_option Elab.async false
set_option linter.all false
set_option maxRecDepth 100000
set_option maxHeartbeats 4000000
namespace K81
open PySem MP
@[simp] theorem evc_bl (C : CalT) (σ : MP.Env) (st : Sto) (t : T) (b : Bool) (h : ev C t σ st = ok (.bl b) st) : evc C [t] σ st = ok b st := by
  simp [h]
  cases b <;> rfl
theorem told_from_ok {n : Nat} {t : List Nat} {st : Sto} (ht : t.length ≤ 10000) : call tab.P (n + 1) "told_from" [.str (tx t)] st = ok (.int (told t : Nat)) st := by
  refine RX_eq (RX_call P_told_from rfl ?_)
  unfold b_told_from
  have hp := pos_le t
  have e := fun σ (h : 3 < σ.length) => comp_enum (C := call tab.P n) (σ := σ) (st := st) (a := 2) (b := 3) (cs := [(.cmp .In (.v 3) (.lit (.str "0123456789")))]) t (by rw [LINE_eq]; omega) (by omega) (by omega) (fun i hi => evc_bl _ _ _ _ _ (by simp [h]))
  simp only [ld] at e
  have e2 : 1 < (pos t).length → atI ((pos t).map fun i => D.int (i : Nat)) (-2) = some (.int (told t : Nat)) := pos_atI
  have e3 : ¬ 1 < (pos t).length → told t = 0 := fun h => if_neg h
  simp [enum_tx, e, wipe, show t.length ≤ 16777216 by omega, -List.getD_eq_getElem?_getD]
  refine ⟨fun h => ?_, fun h => ?_⟩
  · simp [e2 (by omega : 1 < (pos t).length)]
  · rw [e3 (by omega)]; rfl
theorem places_of_ok {n : Nat} {t : List Nat} {st : Sto} (ht : t.length ≤ 10000) : call tab.P (n + 1) "places_of" [.str (tx t)] st = ok (.int (if 46 ∈ t then (t.length : Int) - (t.idxOf 46 : Nat) - 1 else 0)) st := by
  refine RX_eq (RX_call P_places_of rfl ?_)
  unfold b_places_of
  by_cases c : 46 ∈ t
  · simp [show t.length ≤ 16777216 by omega, c, index_one c]
  · simp [show t.length ≤ 16777216 by omega, c]
theorem is_words_ok {n : Nat} {t : List Nat} {p : Nat} {st : Sto} (ht : t.length ≤ 300) (hp : p ≤ 400) : ∃ b : Bool, call tab.P (n + 3) "is_words" [.str (tx t), .int (p : Int)] st = ok (.bl b) st ∧ (b = true ↔ ∃ y, t = W y p) := by
  obtain ⟨x, s, e, rfl, h⟩ := number_of_ok (n := n) (t := t) (p := p) (st := st) ht hp
  rcases h with ⟨y, hy, rfl⟩ | ⟨hy, rfl⟩
  · refine ⟨true, RX_eq (RX_call P_is_words rfl ?_), ⟨fun _ => ⟨y, hy⟩, fun _ => rfl⟩⟩
    unfold b_is_words
    simp [e]
  · refine ⟨false, RX_eq (RX_call P_is_words rfl ?_), ⟨fun q => (by cases q), fun q => (hy q).elim⟩⟩
    unfold b_is_words
    simp [e]
theorem same_signs_ok {n : Nat} {a b : List Nat} {st : Sto} (ha : a.length ≤ 10000) (hb : b.length ≤ 10000) : call tab.P (n + 1) "same_signs" [.str (tx a), .str (tx b)] st = ok (.int (lcp a b : Nat)) st := by
  refine Run_eq (Run_call P_same_signs rfl ?_)
  unfold b_same_signs
  have la : a.length ≤ 16777216 := by omega
  have lb : b.length ≤ 16777216 := by omega
  simp
  refine MP.Run_bnd (P := fun f s => f = .nx [some (.str (tx a)), some (.str (tx b)), some (.int (lcp a b : Nat))] ∧ s = st) (Run_whl (fun k σ s => ∃ m : Nat, k = a.length - m ∧ σ = [some (.str (tx a)), some (.str (tx b)), some (.int (m : Nat))] ∧ s = st ∧ m ≤ a.length ∧ m ≤ b.length ∧ ∀ i < m, a.getD i 0 = b.getD i 0) ?_ a.length _ _ ⟨0, by omega, rfl, rfl, by omega, by omega, fun i hi => by omega⟩) ?_
  · rintro k σ s ⟨m, rfl, rfl, rfl, h1, h2, h3⟩
    by_cases c : m < a.length ∧ m < b.length
    · have ea := atI_tx c.1
      have eb := atI_tx c.2
      by_cases q : a.getD m 0 = b.getD m 0
      · right
        refine ⟨s, ?_, ?_⟩
        · simp [la, lb, ea, eb, q, -List.getD_eq_getElem?_getD]
          omega
        · simp
          refine ⟨a.length - (m + 1), by omega, m + 1, rfl, by omega, by omega, by omega, fun i hi => ?_⟩
          by_cases z : i < m
          · have := h3 i z
            simpa using this
          · have : i = m := by omega
            subst this; simpa using q
      · left
        refine ⟨s, ?_, ?_, rfl⟩
        · simp [la, lb, ea, eb, q, -List.getD_eq_getElem?_getD]
        · rw [lcp_stop h1 h2 h3 fun _ _ => q]
    · left
      refine ⟨s, ?_, ?_, rfl⟩
      · simp [la, lb]
        intro z; omega
      · rw [lcp_stop h1 h2 h3 fun z1 z2 => absurd ⟨z1, z2⟩ c]
  · rintro _ _ ⟨rfl, rfl⟩
    simp
/-- a text whose first signs are left out -/
def cutS (w : List Nat) (m : Nat) : List Nat := List.replicate m 32 ++ w.drop m
def short (w e : List Nat) : List Nat := cutS w (min (lcp w e) (told w))
def hdt (w : List Nat) (pv : Option (List Nat)) (z : Int) : List Nat := match pv with
  | none => w
  | some e => if z % 10 = 0 then w else short w e
def dv : Option (List Nat) → D
  | none => .non
  | some l => .str (tx l)
theorem head_of_ok {n : Nat} {w : List Nat} {pv : Option (List Nat)} {z : Int} {st : Sto} (hw : w.length ≤ 900) (he : ∀ e, pv = some e → e.length ≤ 900) : call tab.P (n + 2) "head_of" [.str (tx w), dv pv, .int z] st = ok (.str (tx (hdt w pv z))) st := by
  refine RX_eq (RX_call P_head_of rfl ?_)
  unfold b_head_of
  cases pv with
  | none => simp [dv, hdt, isop]
  | some e =>
    have he := he e rfl
    have l1 := lcp_le w e
    have l2 := told_le w
    have s1 := same_signs_ok (n := n) (a := w) (b := e) (st := st) (by omega) (by omega)
    have s2 := told_from_ok (n := n) (t := w) (st := st) (by omega)
    obtain ⟨m, hm⟩ : ∃ m, m = min (lcp w e) (told w) := ⟨_, rfl⟩
    have hi : (if told w < lcp w e then ((told w : Nat) : Int) else (lcp w e : Nat)) = (m : Int) := by split <;> omega
    have b1 : -1000 ≤ (m : Int) ∧ (m : Int) ≤ 1000 := by omega
    by_cases c : z % 10 = 0
    · simp [dv, hdt, isop, isNon, c]
    · simp [dv, hdt, isop, isNon, s1, s2, show w.length ≤ 16777216 by omega, c, hi, b1, short, ← hm, cutS]
      omega
theorem law_short_ok {n : Nat} {w e : List Nat} {st : Sto} (hw : w.length ≤ 900) (he : e.length ≤ 900) : call tab.P (n + 1) "_law_short" [.str (tx w), .str (tx e)] st = ok (.str (tx (short w e))) st := by
  apply Run_eq
  refine Run_call P__law_short rfl ?_
  unfold b__law_short
  have la : w.length ≤ 16777216 := by omega
  have lb : e.length ≤ 16777216 := by omega
  have lw4 : w.length < 4611686018427387904 := by omega
  have hp := pos_le w
  have l1 := lcp_le w e
  have l2 := told_le w
  have e1 := fun σ (h : 2 < σ.length) (h0 : σ[0]? = some (some (.str (tx w)))) => comp_pos (C := call tab.P n) (σ := σ) (st := st) (a := 2) (cs := [(.cmp .In (.ix (.v 0) (.v 2)) (.str "0123456789"))]) w (by rw [LINE_eq]; omega) h (fun i hi => evc_bl _ _ _ _ _ (by
    have hn : (σ.set 2 (some (.int (i : Nat))))[0]? = some (some (.str (tx w))) := by rw [List.getElem?_set]; simpa using h0
    simp [h, hn, atI_tx hi, la, -List.getD_eq_getElem?_getD]))
  simp only [ld] at e1
  have e2 : 1 < (pos w).length → atI ((pos w).map fun i => D.int (i : Nat)) (-2) = some (.int (told w : Nat)) := pos_atI
  have e3 : ¬ 1 < (pos w).length → told w = 0 := fun h => if_neg h
  by_cases c : (pos w).length < 2
  · have e3 := e3 (by omega)
    have hs : short w e = w := by unfold short cutS; rw [e3]; simp
    simp [e1, wipe, la, lw4, hs, show ((pos w).length : Int) < 2 by omega]
  · obtain ⟨k, hk⟩ : ∃ k, k = min (told w) e.length := ⟨_, rfl⟩
    have hi : (if (e.length : Int) < (told w : Nat) then (e.length : Int) else (told w : Nat)) = (k : Int) := by split <;> omega
    have hi2 : (if e.length < told w then (e.length : Int) else (told w : Nat)) = (k : Int) := by split <;> omega
    have e2 := e2 (by omega)
    have k4 : k < 4611686018427387904 := by omega
    simp [e1, wipe, la, lw4, lb, k4, show ¬ ((pos w).length : Int) < 2 by omega, e2, hi, hi2]
    refine MP.Run_bnd (P := fun f s => ∃ x2, f = .nx [some (.str (tx w)), some (.str (tx e)), x2, some (.loc st.length), some (.int (min (lcp w e) (told w) : Nat))] ∧ s = st ++ [O.lst ((pos w).map fun i => D.int (i : Nat))])
      (Run_rngE (fun i σ s => ∃ x2, σ = [some (.str (tx w)), some (.str (tx e)), x2, some (.loc st.length), some (.int (i : Nat))] ∧ s = st ++ [O.lst ((pos w).map fun i => D.int (i : Nat))] ∧ ∀ j < i, w.getD j 0 = e.getD j 0) ⟨none, rfl, rfl, fun j hj => by omega⟩ ?_ ?_) ?_
    · rintro i σ s hik ⟨x2, rfl, rfl, h⟩
      have ea := atI_tx (show i < w.length by omega)
      have eb := atI_tx (show i < e.length by omega)
      by_cases q : w.getD i 0 = e.getD i 0
      · simp [ea, eb, la, lb, q, -List.getD_eq_getElem?_getD]
        intro j hj
        by_cases z : j < i
        · exact h j z
        · have : j = i := by omega
          subst this; exact q
      · have : lcp w e = i := lcp_stop (by omega) (by omega) h fun _ _ => q
        rw [show min (lcp w e) (told w) = i by omega]
        simp [ea, eb, la, lb, q, -List.getD_eq_getElem?_getD]
    · rintro σ s ⟨x2, rfl, rfl, h⟩
      refine ⟨x2, ?_, rfl⟩
      have := lcp_of w e k (by omega) (by omega) h
      have : min (lcp w e) (told w) = k := by omega
      rw [this]
    · rintro _ _ ⟨x2, rfl, rfl⟩
      have hm : ∃ m, m = min (lcp w e) (told w) := ⟨_, rfl⟩
      obtain ⟨m, hm⟩ := hm
      have b1 : -1000 ≤ (m : Int) ∧ (m : Int) ≤ 1000 := by omega
      rw [← hm]
      simp [la, b1, short, ← hm, cutS, show m + (w.length - m) ≤ 16777216 by omega]
end K81

set_option Elab.async false
set_option linter.all false
set_option maxRecDepth 100000
set_option maxHeartbeats 4000000
namespace K81
open PySem MP
def pvw (wd : Nat → List Nat) (i : Nat) : Option (List Nat) := if i = 0 then none else some (wd (i - 1))
/-- leading blanks -/
def bl (t : List Nat) : Nat := t.length - (t.dropWhile (· == 32)).length
def jn (pv : Option (List Nat)) (t : List Nat) : List Nat := match pv with
  | none => t
  | some e => e.take (bl t) ++ t.drop (bl t)
theorem dropW_le {α : Type} (p : α → Bool) (l : List α) : (l.dropWhile p).length ≤ l.length := (List.dropWhile_sublist p).length_le
theorem bl_le (t : List Nat) : bl t ≤ t.length := Nat.sub_le _ _
theorem jn_le (pv : Option (List Nat)) (t : List Nat) : (jn pv t).length ≤ t.length := by
  cases pv with
  | none => exact Nat.le_refl _
  | some e =>
    have := bl_le t
    simp [jn]
    omega
def plN (t : List Nat) : Nat := if 46 ∈ t then t.length - t.idxOf 46 - 1 else 0
theorem places_ofN {n : Nat} {t : List Nat} {st : Sto} (ht : t.length ≤ 10000) : call tab.P (n + 1) "places_of" [.str (tx t)] st = ok (.int (plN t : Nat)) st := by
  rw [places_of_ok ht]
  congr 2
  unfold plN
  split
  · rename_i h
    have := List.idxOf_lt_length_iff.2 h
    omega
  · rfl
/-- what the page's texts tell up to the J-th -/
structure Un (T wd : Nat → List Nat) (y : Nat → Int) (p : Nat) (z : Int) (k J : Nat) : Prop where
  len : ∀ i < k, (T i).length ≤ 300
  le : J ≤ k
  hk : k ≤ 1000
  p40 : p ≤ 40
  p0 : 0 < J → plN (wd 0) = p
  pv : ∀ i < J, jn (pvw wd i) (T i) = wd i
  hd : ∀ i < J, hdt (wd i) (pvw wd i) (z + (i : Nat)) = T i
  isw : ∀ i < J, wd i = W (y i) p
  bad : J < k → 40 < (if J = 0 then plN (jn (pvw wd J) (T J)) else p) ∨ (¬ ∃ x, jn (pvw wd J) (T J) = W x (if J = 0 then plN (jn (pvw wd J) (T J)) else p)) ∨ hdt (jn (pvw wd J) (T J)) (pvw wd J) (z + (J : Nat)) ≠ T J
theorem Un.wlen {T wd : Nat → List Nat} {y : Nat → Int} {p : Nat} {z : Int} {k J : Nat} (h : Un T wd y p z k J) {i : Nat} (hi : i < J) : (wd i).length ≤ 300 := by
  rw [← h.pv i hi]
  exact Nat.le_trans (jn_le _ _) (h.len i (by have := h.le; omega))
theorem unheads_ok {n : Nat} {T wd : Nat → List Nat} {y : Nat → Int} {p : Nat} {z : Int} {k J : Nat} {st : Sto} (h : Un T wd y p z k J) : RX (call tab.P (n + 4) "unheads" [.tup (Ts T k), .int z] st) fun x s => s = st ∧ x = if J < k then .error ⟨"BadText", [("line", .int ((J : Int) + 1))]⟩ else .ok (.tup (Ts wd k)) := by
  refine RX_call P_unheads rfl ?_
  unfold b_unheads
  have hle := h.le
  have hk := h.hk
  simp [enum_Ts, setAll]
  refine RX_bnd (P := fun f s => (J = k ∧ s = st ++ [.lst (Ts wd k)] ∧ ∃ x3 x4 x5 x6 x7 x8, f = .ok (.nx [some (.tup (Ts T k)), some (.int z), some (.loc st.length), x3, x4, x5, x6, x7, x8])) ∨ (J < k ∧ s = st ++ [.lst (Ts wd J)] ∧ f = .error ⟨"BadText", [("line", .int ((J : Int) + 1))]⟩))
    (RX_for (fun i σ s => i ≤ J ∧ s = st ++ [.lst (Ts wd i)] ∧ ∃ x3 x4 x5 x6 x7 x8, σ = [some (.tup (Ts T k)), some (.int z), some (.loc st.length), some (.int x3), x4, x5, x6, x7, x8] ∧ (0 < i → x3 = (p : Int))) (fun _ _ _ _ => held_nil _) ⟨Nat.zero_le _, rfl, 0, none, none, none, none, none, rfl, fun q => by omega⟩ ?_ ?_) ?_ ?_
  · rintro i d σ s hi ⟨hiJ, rfl, x3, x4, x5, x6, x7, x8, rfl, hx3⟩
    have hik : i < k := by
      have := (List.getElem?_eq_some_iff.1 hi).1
      simpa using this
    have hd : d = .tup [.int (i : Nat), .str (tx (T i))] := by
      have := (List.getElem?_eq_some_iff.1 hi).2
      rw [← this]; simp
    subst hd
    refine ⟨[some (.tup (Ts T k)), some (.int z), some (.loc st.length), some (.int x3), some (.int (i : Nat)), some (.str (tx (T i))), x6, x7, x8], by simp [asgG, asgGs], ?_⟩
    have lT := h.len i hik
    have lT2 : (T i).length ≤ 16777216 := by omega
    have lD := dropW_le (· == 32) (T i)
    have lD2 : ((T i).dropWhile (· == 32)).length ≤ 16777216 := by omega
    have eb : ((T i).length : Int) - (((T i).dropWhile (· == 32)).length : Nat) = (bl (T i) : Nat) := by unfold bl; omega
    obtain ⟨w, hw⟩ : ∃ w, w = jn (pvw wd i) (T i) := ⟨_, rfl⟩
    have lw : w.length ≤ 300 := by
      have := jn_le (pvw wd i) (T i)
      rw [hw]; omega
    obtain ⟨q, hq⟩ : ∃ q, q = if i = 0 then plN w else p := ⟨_, rfl⟩
    have hp40 := h.p40
    have q4 : q ≤ 400 := by
      rw [hq]
      split
      · unfold plN; split <;> omega
      · omega
    obtain ⟨b, iw, hb⟩ := is_words_ok (n := n) (t := w) (p := q) (st := st ++ [O.lst (Ts wd i)]) lw q4
    have lpv : ∀ e, pvw wd i = some e → e.length ≤ 900 := by
      intro e he
      unfold pvw at he
      split at he
      · cases he
      · cases he
        exact Nat.le_trans (h.wlen (show i - 1 < J by omega)) (by omega)
    have ho := head_of_ok (n := n + 1) (w := w) (pv := pvw wd i) (z := z + (i : Nat)) (st := st ++ [O.lst (Ts wd i)]) (by omega) lpv
    have hpl := places_ofN (n := n + 2) (t := w) (st := st ++ [O.lst (Ts wd i)]) (by omega)
    have good : i < J → q ≤ 40 ∧ b = true ∧ hdt w (pvw wd i) (z + (i : Nat)) = T i ∧ w = wd i := fun c => by
      have e1 := h.pv i c
      have e2 : q = p := by
        rw [hq]
        split
        · rename_i z0
          subst z0
          rw [hw, e1, h.p0 c]
        · rfl
      refine ⟨by omega, hb.2 ⟨y i, ?_⟩, ?_, by rw [hw, e1]⟩
      · rw [hw, e1, e2]; exact h.isw i c
      · rw [hw, e1]; exact h.hd i c
    have bad : i = J → 40 < q ∨ b = false ∨ hdt w (pvw wd i) (z + (i : Nat)) ≠ T i := fun c => by
      have := h.bad (by omega)
      rw [← c, ← hw, ← hq] at this
      rcases this with g | g | g
      · exact .inl g
      · right; left
        cases hbb : b with
        | false => rfl
        | true => exact absurd (hb.1 hbb) g
      · exact .inr (.inr g)
    have qi : (40 : Int) < (q : Int) ↔ 40 < q := by omega
    have gp : i < J → q = p := fun c => by
      have e1 := h.pv i c
      rw [hq]
      split
      · rename_i z0
        subst z0
        rw [hw, e1, h.p0 c]
      · rfl
    have hTs : w = wd i → Ts wd i ++ [.str (tx w)] = Ts wd (i + 1) := fun e => by rw [Ts_succ, e]
    have LTs : i + 1 ≤ 16777216 := by omega
    clear hb
    by_cases i0 : i = 0
    · subst i0
      have pn : pvw wd 0 = none := rfl
      have hw0 : T 0 = w := by rw [hw]; rfl
      have hq0 : plN w = q := hq.symm
      have t0 : Ts wd 0 = [] := rfl
      rw [pn] at ho
      rw [pn, hw0] at good bad
      rw [hw0] at lT2 lD2 eb
      rw [t0] at iw ho hpl
      have ho' : hdt w none (z + (0 : Nat)) = w := rfl
      simp [dv] at ho
      rw [ho'] at good bad
      simp [lT2, lD2, lstrip_eq, eb, hw0, t0, isop, isNon, hpl, hq0]
      refine ⟨fun c => ?_, fun c => ?_⟩
      · have := fun z0 => (good z0).1
        exact ⟨by omega, by rw [show J = 0 by omega]; rfl, by omega⟩
      · simp [iw, ho, hdt]
        refine ⟨fun c2 => ?_, fun c2 => ?_⟩
        · have := fun z0 => (good z0).2.1
          have j0 : ¬ 0 < J := fun z0 => by rw [this z0] at c2; cases c2
          have j1 : J = 0 := by omega
          exact ⟨by omega, by rw [j1]; rfl, by omega⟩
        · have j0 : 0 < J := by
            rcases Nat.eq_zero_or_pos J with z0 | z0
            · rcases bad z0.symm with g | g | g
              · omega
              · rw [g] at c2; cases c2
              · exact absurd rfl g
            · exact z0
          have g := good j0
          exact ⟨by simp [isLst], by omega, by rw [g.2.2.2]; rfl, by rw [gp j0]⟩
    · obtain ⟨i, rfl⟩ : ∃ m, i = m + 1 := ⟨i - 1, by omega⟩
      have pn : pvw wd (i + 1) = some (wd i) := rfl
      rw [pn] at ho good bad hw
      have hq0 : x3 = (q : Int) := by rw [hx3 (by omega), hq]; rfl
      subst hq0
      have lwd := lpv _ pn
      have lwd2 : (wd i).length ≤ 16777216 := by omega
      have hwe : (wd i).take (bl (T (i + 1))) ++ (T (i + 1)).drop (bl (T (i + 1))) = w := hw.symm
      have lst : atI (Ts wd (i + 1)) (-1) = some (.str (tx (wd i))) := Ts_last
      have tn : ¬ Ts wd (i + 1) = [] := fun e => by have := congrArg List.length e; simp at this
      simp only [dv] at ho
      have zi : z + ((i + 1 : Nat) : Int) = z + ((i : Int) + 1) := by omega
      rw [zi] at ho good bad
      have bT := bl_le (T (i + 1))
      simp [lT2, lD2, lstrip_eq, eb, isop, isNon, lst, tn, lwd2, hwe, iw, ho, isLst, LTs]
      refine ⟨by omega, fun c => ?_, fun c => ⟨fun c2 => ?_, fun c2 => ⟨fun c3 => ?_, fun c3 => ?_⟩⟩⟩
      · have j : i + 1 = J := by
          rcases Nat.lt_or_ge (i + 1) J with z0 | z0
          · have := (good z0).1; omega
          · omega
        exact ⟨by omega, by rw [j], by omega⟩
      · have j : i + 1 = J := by
          rcases Nat.lt_or_ge (i + 1) J with z0 | z0
          · have := (good z0).2.1; rw [this] at c2; cases c2
          · omega
        exact ⟨by omega, by rw [j], by omega⟩
      · have j : i + 1 < J := by
          rcases Nat.lt_or_ge (i + 1) J with z0 | z0
          · exact z0
          · rcases bad (by omega) with g | g | g
            · omega
            · rw [g] at c2; cases c2
            · exact absurd c3 g
        exact ⟨by omega, by omega, hTs (good j).2.2.2, by rw [gp j]⟩
      · have j : i + 1 = J := by
          rcases Nat.lt_or_ge (i + 1) J with z0 | z0
          · have := (good z0).2.2.1; exact absurd this c3
          · omega
        exact ⟨by omega, by rw [j], by omega⟩
  · rintro σ s ⟨hiJ, rfl, x3, x4, x5, x6, x7, x8, rfl, hx3⟩
    have e : (Ds (fun i => D.tup [.int (i : Nat), .str (tx (T i))]) k).length = k := by simp
    rw [e] at hiJ ⊢
    exact .inl ⟨by omega, rfl, _, _, _, _, _, _, rfl⟩
  · rintro f s (⟨hJ, rfl, x3, x4, x5, x6, x7, x8, hf⟩ | ⟨hJ, rfl, hf⟩)
    · cases hf
      simp [hJ]
    · cases hf
  · rintro e s (⟨hJ, rfl, x3, x4, x5, x6, x7, x8, hf⟩ | ⟨hJ, rfl, hf⟩)
    · cases hf
    · cases hf
      simp [hJ]
end K81

set_option Elab.async false
set_option linter.all false
set_option maxRecDepth 100000
set_option maxHeartbeats 4000000
namespace MP
open PySem
theorem gcB {s s' : BagB} {g t : Sto} {d : D} (hd : d.blw (3 + g.length) = true) : gc (s.objs ++ g) d (s'.objs ++ (g ++ t)) = s'.objs ++ g := by
  have e1 : (s.objs ++ g).length = 3 + g.length := by simp
  unfold gc
  rw [if_pos]
  · rw [← List.append_assoc]
    exact List.take_left' (by simp)
  · refine ⟨by rw [e1]; exact hd, by simp, fun i hi => ?_⟩
    rw [e1] at hi ⊢
    by_cases h3 : 3 ≤ i
    · left
      obtain ⟨k, rfl⟩ := Nat.le.dest h3
      rw [objs_get, objs_get, List.getElem?_append_left (by omega)]
    · right
      have : i = 0 ∨ i = 1 ∨ i = 2 := by omega
      rcases this with rfl | rfl | rfl
      · exact ⟨.lst (s'.cells.map .int), rfl, by simp⟩
      · exact ⟨.lst (s'.rems.map .int), rfl, by simp⟩
      · refine ⟨.lst [.loc 0, .int s'.pos, .int s'.cur, .int s'.cnt, .int s'.flag, .int s'.bud, .loc 1], rfl, ?_⟩
        simp
        omega
theorem objs_setB (s : BagB) (g t : Sto) (o o' : O) : (s.objs ++ (g ++ o :: t)).set (3 + g.length) o' = s.objs ++ (g ++ o' :: t) := by
  rw [List.set_append_right _ _ (by simp)]
  congr 1
  rw [objs_len, Nat.add_sub_cancel_left, List.set_append_right _ _ (Nat.le_refl _), Nat.sub_self]; rfl
theorem Zs_put (y : Nat → Int) (k : Nat) (v : Int) : Zs (fun j => if j < k then y j else v) (k + 1) = Zs y k ++ [.int v] := by
  rw [Zs_succ, if_neg (Nat.lt_irrefl _)]
  congr 1
  exact Zs_congr fun i hi => if_pos hi
theorem gcB0 {s s' : BagB} {g : Sto} {d : D} : gc (s.objs ++ g) d (s'.objs ++ g) = s'.objs ++ g := gc_len (by simp)
end MP
namespace K81
open PySem MP
theorem W_len (y : Int) (p : Nat) : (W y p).length ≤ p + (dig y.natAbs).length + 3 := by
  have h1 := pad_le y.natAbs p
  have hs : (sgn y).length ≤ 1 := by unfold sgn; split <;> simp
  unfold W body
  rw [List.length_append]
  split
  · omega
  · simp; omega
/-- a page's prints -/
structure Pg (y : Nat → Int) (k p : Nat) (z : Int) : Prop where
  y : ∀ i < k, (y i).natAbs < 10 ^ 20
  k0 : 0 < k
  k1 : k ≤ 1000
  p : p ≤ 6
abbrev wds (y : Nat → Int) (p : Nat) : Nat → List Nat := fun i => W (y i) p
def hds (y : Nat → Int) (p : Nat) (z : Int) : Nat → List Nat := fun i => hdt (W (y i) p) (pvw (wds y p) i) (z + (i : Nat))
theorem Pg.len {y : Nat → Int} {k p : Nat} {z : Int} (h : Pg y k p z) {i : Nat} (hi : i < k) : (W (y i) p).length ≤ 40 := by
  have h1 := W_len (y i) p
  have h2 := (dig_len (n := (y i).natAbs) (k := 20) (by omega)).2 (h.y i hi)
  have := h.p
  omega
theorem heads_ok {n : Nat} {y : Nat → Int} {k p : Nat} {z : Int} {st : Sto} (h : Pg y k p z) : call tab.P (n + 3) "heads" [.tup (Zs y k), .int (p : Int), .int z] st = ok (.tup (Ts (hds y p z) k)) st := by
  apply Run_eq
  refine Run_call P_heads rfl ?_
  unfold b_heads
  have hk := h.k1
  have hp := h.p
  simp [items_enumT, zipIdx_Zs, setAll]
  refine MP.Run_bnd (P := fun f s => s = st ++ [.lst (Ts (hds y p z) k)] ∧ ∃ x4 x5 x6 x7, f = .nx [some (.tup (Zs y k)), some (.int (p : Int)), some (.int z), some (.loc st.length), x4, x5, x6, x7])
    (Run_for (fun i σ s => s = st ++ [.lst (Ts (hds y p z) i)] ∧ ∃ x5 x6 x7, σ = [some (.tup (Zs y k)), some (.int (p : Int)), some (.int z), some (.loc st.length), some (dv (pvw (wds y p) i)), x5, x6, x7]) (fun _ _ _ _ => held_nil _) ⟨rfl, none, none, none, rfl⟩ ?_ ?_) ?_
  · rintro i d σ s hi ⟨rfl, x5, x6, x7, rfl⟩
    have hik : i < k := by
      have := (List.getElem?_eq_some_iff.1 hi).1
      simpa using this
    have hd : d = .tup [.int (i : Nat), .int (y i)] := by
      have := (List.getElem?_eq_some_iff.1 hi).2
      rw [← this]; simp
    subst hd
    refine ⟨[some (.tup (Zs y k)), some (.int (p : Int)), some (.int z), some (.loc st.length), some (dv (pvw (wds y p) i)), some (.int (i : Nat)), some (.int (y i)), x7], by simp [asgG, asgGs], ?_⟩
    have l1 := h.len hik
    have lpv : ∀ e, pvw (wds y p) i = some e → e.length ≤ 900 := by
      intro e he
      unfold pvw at he
      split at he
      · cases he
      · cases he
        exact Nat.le_trans (h.len (show i - 1 < k by omega)) (by omega)
    have wo := words_of_ok (n := n + 1) (y := y i) (p := p) (st := st ++ [.lst (Ts (hds y p z) i)]) (Nat.lt_of_lt_of_le (h.y i hik) (Nat.pow_le_pow_right (by decide) (by decide))) (by omega)
    have ho := head_of_ok (n := n) (w := W (y i) p) (pv := pvw (wds y p) i) (z := z + (i : Nat)) (st := st ++ [.lst (Ts (hds y p z) i)]) (by omega) lpv
    have hs : hdt (W (y i) p) (pvw (wds y p) i) (z + (i : Nat)) = hds y p z i := rfl
    rw [hs] at ho
    simp [wo, ho, isLst, show i < 16777216 by omega, Ts_succ]
    rfl
  · rintro σ s ⟨rfl, x5, x6, x7, rfl⟩
    have e : (Ds (fun i => D.tup [.int (i : Nat), .int (y i)]) k).length = k := by simp
    rw [e]
    exact ⟨rfl, _, _, _, _, rfl⟩
  · rintro _ _ ⟨rfl, x4, x5, x6, x7, rfl⟩
    simp
theorem draw {n : Nat} {s : BagB} {m : Int} {g : Sto} (h : s.Ok) (hc : s.cnt < 1000000000000) (m0 : 0 < m) (m1 : m < 18446744073709551616) :
    MP.Run (MP.call tab.P (n + 2) "_law_draw" [.loc 2, .int m] (s.objs ++ g)) fun d st => ∃ r s', d = .int r ∧ st = BagB.objs s' ++ g ∧ s'.Ok ∧ s'.cnt = s.cnt + 1 ∧ 0 ≤ r ∧ r < m := drawB_run P__law_mixed P__law_draw h hc m0 m1
theorem page_run {n : Nat} {s : BagB} {g : Sto} (h : s.Ok) (hc : s.cnt < 1000000000) : MP.Run (MP.call tab.P (n + 3) "_law_page" [.loc 2] (s.objs ++ g)) fun d st => ∃ y k p z s', d = .tup [.tup (Zs y k), .int (p : Nat), .int z] ∧ Pg y k p z ∧ k ≤ 30 ∧ st = BagB.objs s' ++ g ∧ s'.Ok ∧ s'.cnt ≤ s.cnt + 50 := by
  refine Run_call P__law_page rfl ?_
  unfold b__law_page
  simp
  refine MP.Run_bnd (draw h (by omega) (by omega) (by omega)) ?_
  rintro _ _ ⟨r1, s1, rfl, rfl, ho1, hc1, r10, r11⟩
  obtain ⟨p, hp⟩ : ∃ p : Nat, r1 = (p : Nat) := ⟨r1.toNat, by omega⟩
  subst hp
  simp [setAll]
  refine MP.Run_bnd (draw ho1 (by omega) (by omega) (by omega)) ?_
  rintro _ _ ⟨r2, s2, rfl, rfl, ho2, hc2, r20, r21⟩
  obtain ⟨w, ew, w0, w1⟩ : ∃ w, atI [D.int 30, D.int 4000, D.int 2000000] r2 = some (.int w) ∧ 30 ≤ w ∧ w ≤ 2000000 := by
    have : r2 = 0 ∨ r2 = 1 ∨ r2 = 2 := by omega
    rcases this with rfl | rfl | rfl <;> exact ⟨_, rfl, by omega, by omega⟩
  simp [ew]
  refine MP.Run_bnd (draw ho2 (by omega) (by omega) (by omega)) ?_
  rintro _ _ ⟨r3, s3, rfl, rfl, ho3, hc3, r30, r31⟩
  simp
  refine MP.Run_bnd (draw ho3 (by omega) (by omega) (by omega)) ?_
  rintro _ _ ⟨r4, s4, rfl, rfl, ho4, hc4, r40, r41⟩
  obtain ⟨w2, ew2, w20, w21⟩ : ∃ w, atI [D.int 0, D.int 15, D.int 2000] r4 = some (.int w) ∧ 0 ≤ w ∧ w ≤ 2000 := by
    have : r4 = 0 ∨ r4 = 1 ∨ r4 = 2 := by omega
    rcases this with rfl | rfl | rfl <;> exact ⟨_, rfl, by omega, by omega⟩
  simp [ew2]
  refine MP.Run_bnd (draw ho4 (by omega) (by omega) (by omega)) ?_
  rintro _ _ ⟨r5, s5, rfl, rfl, ho5, hc5, r50, r51⟩
  obtain ⟨w3, ew3, w30, w31⟩ : ∃ w, atI [D.int 0, D.int 1, D.int 2, D.int 3, D.int 40, D.int 5000, D.int (-1), D.int (-7)] r5 = some (.int w) ∧ -7 ≤ w ∧ w ≤ 5000 := by
    have : r5 = 0 ∨ r5 = 1 ∨ r5 = 2 ∨ r5 = 3 ∨ r5 = 4 ∨ r5 = 5 ∨ r5 = 6 ∨ r5 = 7 := by omega
    rcases this with rfl | rfl | rfl | rfl | rfl | rfl | rfl | rfl <;> exact ⟨_, rfl, by omega, by omega⟩
  have gi : (s5.objs ++ (g ++ [O.lst [], O.lst [D.int 30, D.int 4000, D.int 2000000], O.lst [D.int 0, D.int 15, D.int 2000], O.lst [D.int 0, D.int 1, D.int 2, D.int 3, D.int 40, D.int 5000, D.int (-1), D.int (-7)]]))[3 + (g.length + 3)]? = some (O.lst [D.int 0, D.int 1, D.int 2, D.int 3, D.int 40, D.int 5000, D.int (-1), D.int (-7)]) := by
    rw [objs_get, List.getElem?_append_right (by omega)]
    simp
  simp [gi, ew3]
  refine MP.Run_bnd (draw ho5 (by omega) (by omega) (by omega)) ?_
  rintro _ _ ⟨r6, s6, rfl, rfl, ho6, hc6, r60, r61⟩
  obtain ⟨k, hk⟩ : ∃ k : Nat, 1 + r6 = (k : Int) := ⟨(1 + r6).toNat, by omega⟩
  obtain ⟨t, ht⟩ : ∃ t, t = [O.lst [D.int 30, D.int 4000, D.int 2000000], O.lst [D.int 0, D.int 15, D.int 2000], O.lst [D.int 0, D.int 1, D.int 2, D.int 3, D.int 40, D.int 5000, D.int (-1), D.int (-7)]] := ⟨_, rfl⟩
  simp [hk, show k < 4611686018427387904 by omega]
  rw [← ht]
  refine MP.Run_bnd (P := fun f st => ∃ y v s7 x5, f = .nx [some (.loc 2), some (.int (p : Nat)), some (.loc (3 + g.length)), some (.int v), some (.int w3), x5] ∧ st = BagB.objs s7 ++ (g ++ O.lst (Zs y k) :: t) ∧ s7.Ok ∧ s7.cnt ≤ s6.cnt + k ∧ ∀ j < k, (y j).natAbs < 10 ^ 20)
    (Run_rng (fun i σ st => ∃ y v s7 x5, σ = [some (.loc 2), some (.int (p : Nat)), some (.loc (3 + g.length)), some (.int v), some (.int w3), x5] ∧ st = BagB.objs s7 ++ (g ++ O.lst (Zs y i) :: t) ∧ s7.Ok ∧ s7.cnt ≤ s6.cnt + i ∧ (v.natAbs ≤ 2000000 + 5010 * i) ∧ ∀ j < i, (y j).natAbs < 10 ^ 20)
      ⟨fun _ => 0, _, s6, _, rfl, rfl, ho6, by omega, by omega, fun j hj => by omega⟩ ?_ ?_) ?_
  · rintro i σ st hi ⟨y, v, s7, x5, rfl, rfl, ho7, hc7, hv, hy⟩
    simp [isLst, objs_setB, show i < 16777216 by omega]
    refine MP.Run_bnd (draw ho7 (by omega) (by omega) (by omega)) ?_
    rintro _ _ ⟨r8, s8, rfl, rfl, ho8, hc8, r80, r81⟩
    simp
    refine ⟨fun j => if j < i then y j else v, s8, by rw [Zs_put], ho8, by omega, by omega, fun j hj => ?_⟩
    show (if j < i then y j else v).natAbs < _
    split
    · rename_i q; exact hy j q
    · omega
  · rintro σ st ⟨y, v, s7, x5, rfl, rfl, ho7, hc7, hv, hy⟩
    exact ⟨y, v, s7, x5, rfl, rfl, ho7, hc7, hy⟩
  · rintro _ _ ⟨y, v, s7, x5, rfl, rfl, ho7, hc7, hy⟩
    simp
    refine MP.Run_bnd (draw ho7 (by omega) (by omega) (by omega)) ?_
    rintro _ _ ⟨r8, s8, rfl, rfl, ho8, hc8, r80, r81⟩
    simp
    refine ⟨y, k, p, r8 - 25, by simp, ⟨hy, by omega, by omega, by omega⟩, by omega, s8, ?_, ho8, by omega⟩
    exact gcB (by simp)
end K81

set_option Elab.async false
set_option linter.all false
set_option maxRecDepth 100000
set_option maxHeartbeats 4000000
set_option exponentiation.threshold 600
namespace K81
open PySem MP
theorem pad_get (n p : Nat) : ∀ c ∈ pad n p, 48 ≤ c ∧ c ≤ 57 := fun c hc => dg_ge (pad_dg n p c hc)
/-- a print's text: a sign or none, figures, and with places a point and p figures -/
theorem W_parts (y : Int) (p : Nat) : ∃ a b, W y p = sgn y ++ (a ++ b) ∧ a ≠ [] ∧ (∀ c ∈ a, 48 ≤ c ∧ c ≤ 57) ∧ ((p = 0 ∧ b = []) ∨ (0 < p ∧ ∃ r, b = 46 :: r ∧ r.length = p ∧ ∀ c ∈ r, 48 ≤ c ∧ c ≤ 57)) := by
  have h := pad_len y.natAbs p
  unfold W body
  by_cases c : p = 0
  · rw [if_pos c]
    exact ⟨pad y.natAbs p, [], by simp, pad_ne _ _, pad_get _ _, .inl ⟨c, rfl⟩⟩
  · rw [if_neg c]
    refine ⟨_, _, rfl, ?_, fun x hx => pad_get _ _ x (List.mem_of_mem_take hx), .inr ⟨by omega, _, rfl, ?_, fun x hx => pad_get _ _ x (List.mem_of_mem_drop hx)⟩⟩
    · intro z
      have := congrArg List.length z
      rw [List.length_take] at this
      simp at this
      omega
    · show (List.drop _ _).length = p
      rw [List.length_drop]; omega
theorem W_nb (y : Int) (p : Nat) : ∀ c ∈ W y p, c = 45 ∨ c = 46 ∨ (48 ≤ c ∧ c ≤ 57) := by
  obtain ⟨a, b, e, _, ha, hb⟩ := W_parts y p
  intro c hc
  rw [e, List.mem_append, List.mem_append] at hc
  rcases hc with hc | hc | hc
  · unfold sgn at hc
    split at hc
    · exact .inl (List.mem_singleton.1 hc)
    · cases hc
  · exact .inr (.inr (ha c hc))
  · rcases hb with ⟨_, rfl⟩ | ⟨_, r, rfl, _, hr⟩
    · cases hc
    · rcases List.mem_cons.1 hc with rfl | hc
      · exact .inr (.inl rfl)
      · exact .inr (.inr (hr c hc))
theorem W_plN (y : Int) (p : Nat) : plN (W y p) = p := by
  obtain ⟨a, b, e, _, ha, hb⟩ := W_parts y p
  have ns : ¬ 46 ∈ sgn y := by unfold sgn; split <;> simp
  have na : ¬ 46 ∈ a := fun h => by have := ha _ h; omega
  rcases hb with ⟨rfl, rfl⟩ | ⟨hp, r, rfl, hr, _⟩
  · unfold plN
    rw [if_neg]
    rw [e]; simp [ns, na]
  · have hm : 46 ∈ W y p := by rw [e]; simp
    have hi : (W y p).idxOf 46 = (sgn y).length + a.length := by
      rw [e, List.idxOf_append, if_neg ns, List.idxOf_append, if_neg na]
      simp
      omega
    unfold plN
    rw [if_pos hm, hi, e]
    simp [hr]
    omega
theorem bl_nb {t : List Nat} (h : ∀ c ∈ t, c ≠ 32) : bl t = 0 := by
  unfold bl
  cases t with
  | nil => rfl
  | cons c t =>
    rw [List.dropWhile_cons_of_neg (by simpa using h c List.mem_cons_self)]
    omega
theorem bl_cut {w : List Nat} {m : Nat} (h : ∀ c ∈ w, c ≠ 32) (hm : m ≤ w.length) : bl (cutS w m) = m := by
  unfold bl cutS
  have e : (List.replicate m 32 ++ w.drop m).dropWhile (· == 32) = w.drop m := by
    rw [List.dropWhile_append_of_pos (by intro c hc; simp [(List.mem_replicate.1 hc).2])]
    cases q : w.drop m with
    | nil => rfl
    | cons c t =>
      rw [List.dropWhile_cons_of_neg]
      have : c ∈ w := List.mem_of_mem_drop (by rw [q]; exact List.mem_cons_self)
      simpa using h c this
  rw [e]
  simp
theorem cutS_len {w : List Nat} {m : Nat} (hm : m ≤ w.length) : (cutS w m).length = w.length := by
  unfold cutS
  simp; omega
theorem W_nb32 (y : Int) (p : Nat) : ∀ c ∈ W y p, c ≠ 32 := fun c hc => by
  rcases W_nb y p c hc with h | h | h <;> omega
theorem hdt_len (w : List Nat) (pv : Option (List Nat)) (z : Int) : (hdt w pv z).length = w.length := by
  unfold hdt
  cases pv with
  | none => rfl
  | some e =>
    dsimp only
    split
    · rfl
    · have := lcp_le w e
      exact cutS_len (by omega)
theorem jn_hdt {w : List Nat} {pv : Option (List Nat)} {z : Int} (h : ∀ c ∈ w, c ≠ 32) : jn pv (hdt w pv z) = w := by
  cases pv with
  | none => rfl
  | some e =>
    show e.take (bl (hdt w (some e) z)) ++ (hdt w (some e) z).drop (bl (hdt w (some e) z)) = w
    unfold hdt
    dsimp only
    split
    · rw [bl_nb h]; simp
    · have l := lcp_le w e
      have hb := bl_cut h (show min (lcp w e) (told w) ≤ w.length by omega)
      unfold short
      rw [hb, ← lcp_take w e _ (show min (lcp w e) (told w) ≤ lcp w e by omega)]
      unfold cutS
      rw [List.drop_left' (by simp), List.take_append_drop]
theorem Un_page {y : Nat → Int} {k p : Nat} {z : Int} (h : Pg y k p z) : Un (hds y p z) (wds y p) y p z k k where
  len i hi := by
    unfold hds
    rw [hdt_len]
    exact Nat.le_trans (h.len hi) (by omega)
  le := Nat.le_refl _
  hk := h.k1
  p40 := by have := h.p; omega
  p0 _ := W_plN _ _
  pv i hi := jn_hdt (W_nb32 _ _)
  hd i hi := rfl
  isw i hi := rfl
  bad h := absurd h (Nat.lt_irrefl _)
/-- one text bent -/
def put (T : Nat → List Nat) (J : Nat) (t : List Nat) : Nat → List Nat := fun i => if i = J then t else T i
def Bad (y : Nat → Int) (p : Nat) (z : Int) (J : Nat) (t : List Nat) : Prop :=
  40 < (if J = 0 then plN (jn (pvw (wds y p) J) t) else p) ∨ (¬ ∃ x, jn (pvw (wds y p) J) t = W x (if J = 0 then plN (jn (pvw (wds y p) J) t) else p)) ∨ hdt (jn (pvw (wds y p) J) t) (pvw (wds y p) J) (z + (J : Nat)) ≠ t
theorem Un_bent {y : Nat → Int} {k p J : Nat} {z : Int} {t : List Nat} (h : Pg y k p z) (hJ : J < k) (ht : t.length ≤ 300) (hb : Bad y p z J t) : Un (put (hds y p z) J t) (wds y p) y p z k J where
  len i hi := by
    unfold put
    split
    · exact ht
    · unfold hds
      rw [hdt_len]
      exact Nat.le_trans (h.len hi) (by omega)
  le := by omega
  hk := h.k1
  p40 := by have := h.p; omega
  p0 _ := W_plN _ _
  pv i hi := by
    unfold put
    rw [if_neg (by omega)]
    exact jn_hdt (W_nb32 _ _)
  hd i hi := by
    unfold put
    rw [if_neg (by omega)]
    rfl
  isw i hi := rfl
  bad _ := by
    have e : put (hds y p z) J t J = t := if_pos rfl
    rw [e]
    exact hb
/-- why a bent text is refused -/
theorem bad_print {y : Nat → Int} {p J : Nat} {z : Int} {t : List Nat} (h : ∀ x q, jn (pvw (wds y p) J) t ≠ W x q) : Bad y p z J t := .inr (.inl fun ⟨x, e⟩ => h _ _ e)
theorem bad_head {y : Nat → Int} {p J : Nat} {z : Int} {t : List Nat} (h : hdt (jn (pvw (wds y p) J) t) (pvw (wds y p) J) (z + (J : Nat)) ≠ t) : Bad y p z J t := .inr (.inr h)
end K81

set_option Elab.async false
set_option linter.all false
set_option maxRecDepth 100000
set_option maxHeartbeats 4000000
set_option exponentiation.threshold 600
namespace MP
theorem pos_app (a b : List Nat) : pos (a ++ b) = pos a ++ (pos b).map (· + a.length) := by
  unfold pos
  rw [List.length_append, List.range_add, List.filter_append]
  congr 1
  · refine List.filter_congr fun i hi => ?_
    have hi := List.mem_range.1 hi
    simp [List.getD_eq_getElem?_getD, List.getElem?_append_left hi]
  · rw [List.filter_map]
    have e : ((fun i => isDg ((a ++ b).getD i 0)) ∘ fun x => a.length + x) = fun i => isDg (b.getD i 0) := by
      funext i
      simp [List.getD_eq_getElem?_getD, List.getElem?_append_right]
    rw [e]
    exact List.map_congr_left fun i _ => Nat.add_comm _ _
theorem pos_split (t : List Nat) (m : Nat) (h : m ≤ t.length) : pos t = pos (t.take m) ++ (pos (t.drop m)).map (· + m) := by
  have e := pos_app (t.take m) (t.drop m)
  rw [List.take_append_drop, List.length_take, Nat.min_eq_left h] at e
  exact e
/-- the last figure but one lies no further than m where behind m one figure stands -/
theorem told_le_of {t : List Nat} {m : Nat} (h : m + 1 ≤ t.length) (h1 : (pos (t.drop (m + 1))).length ≤ 1) : told t ≤ m := by
  unfold told
  split
  · rename_i c
    have e := pos_split t (m + 1) h
    have hl : (pos t).length = (pos (t.take (m + 1))).length + (pos (t.drop (m + 1))).length := by rw [e]; simp
    have hi : (pos t).length - 2 < (pos (t.take (m + 1))).length := by omega
    have : (pos t).getD ((pos t).length - 2) 0 ∈ pos (t.take (m + 1)) := by
      rw [List.getD_eq_getElem?_getD]
      generalize (pos t).length - 2 = j at hi ⊢
      rw [e, List.getElem?_append_left hi, List.getElem?_eq_getElem hi]
      exact List.getElem_mem _
    have := pos_lt this
    rw [List.length_take] at this
    omega
  · omega
theorem told_behind {t : List Nat} (h2 : 1 < (pos t).length) : told t + 1 ≤ t.length ∧ (pos (t.drop (told t + 1))).length ≤ 1 := by
  have m0 : told t ∈ pos t := by
    unfold told
    rw [if_pos h2, List.getD_eq_getElem?_getD, List.getElem?_eq_getElem (show (pos t).length - 2 < (pos t).length by omega)]
    exact List.getElem_mem _
  have h := pos_lt m0
  refine ⟨h, ?_⟩
  rcases Nat.lt_or_ge 1 (pos (t.drop (told t + 1))).length with c | c
  · exfalso
    have e := pos_split t (told t + 1) h
    have hl : (pos t).length = (pos (t.take (told t + 1))).length + (pos (t.drop (told t + 1))).length := by
      have := congrArg List.length e
      simpa using this
    have ht : told t = (pos t).getD ((pos t).length - 2) 0 := by
      rw [told, if_pos h2]
    have : told t ∈ (pos (t.drop (told t + 1))).map (· + (told t + 1)) := by
      have hh : (pos t).getD ((pos t).length - 2) 0 ∈ (pos (t.drop (told t + 1))).map (· + (told t + 1)) := by
        have hj : (pos t).length - 2 = (pos (t.take (told t + 1))).length + ((pos (t.drop (told t + 1))).length - 2) := by omega
        rw [hj, List.getD_eq_getElem?_getD]
        have e2 : (pos t)[(pos (t.take (told t + 1))).length + ((pos (t.drop (told t + 1))).length - 2)]? = ((pos (t.drop (told t + 1))).map (· + (told t + 1)))[(pos (t.drop (told t + 1))).length - 2]? := by
          conv => lhs; rw [e]
          rw [List.getElem?_append_right (by omega), Nat.add_sub_cancel_left]
        rw [e2, List.getElem?_eq_getElem (by rw [List.length_map]; omega)]
        exact List.getElem_mem _
      rw [← ht] at hh
      exact hh
    obtain ⟨i, _, hi⟩ := List.mem_map.1 this
    omega
  · exact c
theorem starts_one (c : Nat) (l : List Nat) : PySem.Txt.startswith (tx l) (tx [c]) = decide (l.take 1 = [c]) := by
  have h := PySem.StrLaws.subAt_one (tx l) c 0
  rw [cps_tx] at h
  rw [Bool.eq_iff_iff]
  unfold PySem.Txt.startswith
  simp only [Bool.and_eq_true, decide_eq_true_eq]
  rw [Nat.zero_add] at h
  refine h.trans ?_
  cases l <;> simp
end MP
namespace K81
open PySem MP
theorem W_ne (y : Int) (p : Nat) : W y p ≠ [] := by
  obtain ⟨a, b, e, ha, _⟩ := W_parts y p
  rw [e]
  intro z
  have h1 := congrArg List.length z
  rw [List.length_append, List.length_append, List.length_nil] at h1
  have := List.length_pos_iff.2 ha
  omega
/-- the last sign of a print is a figure -/
theorem W_last {y : Int} {p : Nat} {u : List Nat} {c : Nat} (h : u ++ [c] = W y p) : 48 ≤ c ∧ c ≤ 57 := by
  obtain ⟨a, b, e, ha, hd, hb⟩ := W_parts y p
  rw [e] at h
  have last : ∀ l : List Nat, l ≠ [] → (∀ x ∈ l, 48 ≤ x ∧ x ≤ 57) → ∀ v, u ++ [c] = v ++ l → 48 ≤ c ∧ c ≤ 57 := by
    intro l hl hd v hv
    have e1 := congrArg List.getLast? hv
    rw [List.getLast?_append, List.getLast?_append, List.getLast?_eq_some_getLast hl] at e1
    simp at e1
    rw [e1]
    exact hd _ (List.getLast_mem hl)
  rcases hb with ⟨_, rfl⟩ | ⟨hp, r, rfl, hr, hd2⟩
  · rw [List.append_nil] at h
    exact last a ha hd _ h
  · refine last r (fun z => by rw [z] at hr; simp at hr; omega) hd2 (sgn y ++ (a ++ [46])) ?_
    rw [h]; simp
theorem jn_last (pv : Option (List Nat)) (u : List Nat) {c : Nat} (hc : c ≠ 32) : ∃ v, jn pv (u ++ [c]) = v ++ [c] := by
  cases pv with
  | none => exact ⟨u, rfl⟩
  | some e =>
    have hb : bl (u ++ [c]) ≤ u.length := by
      have h : ∀ u : List Nat, 1 ≤ ((u ++ [c]).dropWhile (· == 32)).length := by
        intro u
        induction u with
        | nil => rw [List.nil_append, List.dropWhile_cons_of_neg (by simpa using hc)]; simp
        | cons x u ih =>
          rw [List.cons_append, List.dropWhile_cons]
          split
          · exact ih
          · simp
      have := h u
      unfold bl
      rw [List.length_append, List.length_singleton]
      omega
    refine ⟨e.take (bl (u ++ [c])) ++ u.drop (bl (u ++ [c])), ?_⟩
    show e.take _ ++ (u ++ [c]).drop _ = _
    rw [List.drop_append_of_le_length hb, List.append_assoc]
theorem bad_last {y : Nat → Int} {p J : Nat} {z : Int} {u : List Nat} {c : Nat} (hc : c ≠ 32) (h : ¬ (48 ≤ c ∧ c ≤ 57)) : Bad y p z J (u ++ [c]) := bad_print fun x q e => by
  obtain ⟨v, hv⟩ := jn_last (pvw (wds y p) J) u hc
  rw [hv] at e
  exact h (W_last e)
theorem bad_empty {y : Nat → Int} {p J : Nat} {z : Int} : Bad y p z J [] := bad_print fun x q e => by
  have : jn (pvw (wds y p) J) [] = [] := by
    cases pvw (wds y p) J with
    | none => rfl
    | some e => show e.take (bl []) ++ ([] : List Nat).drop _ = []; simp [bl]
  rw [this] at e
  exact W_ne x q e.symm
theorem plN_cons {c : Nat} {l : List Nat} (h : c ≠ 46) : plN (c :: l) = plN l := by
  unfold plN
  by_cases q : 46 ∈ l
  · have := List.idxOf_lt_length_iff.2 q
    rw [if_pos (List.mem_cons_of_mem _ q), if_pos q, List.idxOf_cons, beq_eq_false_iff_ne.2 h]
    simp
  · rw [if_neg q, if_neg]
    intro z
    rcases List.mem_cons.1 z with z | z
    · exact h z.symm
    · exact q z
def whole (z : Int) (J : Nat) : Prop := J = 0 ∨ (z + (J : Nat)) % 10 = 0
theorem hds_whole {y : Nat → Int} {p J : Nat} {z : Int} (h : whole z J) : hds y p z J = W (y J) p := by
  unfold hds pvw
  rcases h with h | h
  · rw [if_pos h]; rfl
  · split
    · rfl
    · exact if_pos h
theorem hds_short {y : Nat → Int} {p J : Nat} {z : Int} (h0 : J ≠ 0) (h : ¬ (z + (J : Nat)) % 10 = 0) : hds y p z J = cutS (W (y J) p) (min (lcp (W (y J) p) (W (y (J - 1)) p)) (told (W (y J) p))) := by
  unfold hds pvw
  rw [if_neg h0]
  exact if_neg h
/-- a needless naught -/
theorem bad_zero {y : Nat → Int} {p J : Nat} {z : Int} (h : whole z J) : Bad y p z J (if (W (y J) p).take 1 = [45] then [45, 48] ++ (W (y J) p).drop 1 else 48 :: W (y J) p) := by
  obtain ⟨h1, h2, h3⟩ := W_take (y J) p
  obtain ⟨t, ht⟩ : ∃ t, t = (if (W (y J) p).take 1 = [45] then [45, 48] ++ (W (y J) p).drop 1 else 48 :: W (y J) p) := ⟨_, rfl⟩
  rw [← ht]
  have nb : ∀ c ∈ t.head?, c ≠ 32 := by
    rw [ht]
    split <;> simp
  have b0 : bl t = 0 := by
    unfold bl
    cases t with
    | nil => rfl
    | cons c t =>
      rw [List.dropWhile_cons_of_neg (by simpa using nb c (by simp))]
      omega
  have hj : jn (pvw (wds y p) J) t = t := by
    cases pvw (wds y p) J with
    | none => rfl
    | some e => show e.take (bl t) ++ t.drop (bl t) = t; rw [b0]; simp
  have hw1 : y J < 0 → W (y J) p = 45 :: (W (y J) p).drop 1 := fun c => by
    have e := List.take_append_drop 1 (W (y J) p)
    rw [h1.2 c] at e
    exact e.symm
  have hp : plN t = p := by
    rw [ht]
    by_cases c : y J < 0
    · rw [if_pos (h1.2 c)]
      have := W_plN (y J) p
      rw [hw1 c, plN_cons (by omega)] at this
      show plN (45 :: 48 :: (W (y J) p).drop 1) = p
      rw [plN_cons (by omega), plN_cons (by omega), this]
    · rw [if_neg fun z => c (h1.1 z), plN_cons (by omega)]
      exact W_plN _ _
  have hf : fig t = 48 :: fig (W (y J) p) := by
    rw [ht]
    by_cases c : y J < 0
    · rw [if_pos (h1.2 c)]
      unfold fig
      rw [if_pos (h1.2 c), if_pos (by simp)]
      simp [List.drop_one]
    · rw [if_neg fun z => c (h1.1 z)]
      unfold fig
      rw [if_neg fun z => c (h1.1 z), if_neg (by simp)]
      simp
  have hl : t.length = (W (y J) p).length + 1 := by
    rw [ht]
    have := List.length_pos_iff.2 (W_ne (y J) p)
    split
    · simp; omega
    · simp
  have ht1 : t.take 1 = [45] ↔ y J < 0 := by
    rw [← h1, ht]
    split
    · rename_i c; simp [c]
    · rename_i c; simp [c]
  refine .inr (.inl ?_)
  rw [hj]
  rintro ⟨x, e⟩
  have eq : (if J = 0 then plN t else p) = p := by split <;> simp [hp]
  rw [eq] at e
  obtain ⟨g1, _, _⟩ := W_take x p
  have v1 : val (fig t) = x.natAbs := by rw [e, fig_W, pad_val]
  have v2 : val (fig t) = (y J).natAbs := by
    rw [hf, fig_W]
    have : val (48 :: pad (y J).natAbs p) = val (pad (y J).natAbs p) := val_pad 1 _
    rw [this, pad_val]
  have sx : x < 0 ↔ y J < 0 := by rw [← g1, ← e, ht1]
  have : x = y J := by omega
  rw [e, this] at hl
  omega
end K81

set_option Elab.async false
set_option linter.all false
set_option maxRecDepth 100000
set_option maxHeartbeats 4000000
set_option exponentiation.threshold 600
namespace K81
open PySem MP
theorem bl_hds {y : Nat → Int} {p J : Nat} {z : Int} : (whole z J → bl (hds y p z J) = 0) ∧ (¬ whole z J → bl (hds y p z J) = min (lcp (W (y J) p) (W (y (J - 1)) p)) (told (W (y J) p))) := by
  refine ⟨fun h => ?_, fun h => ?_⟩
  · rw [hds_whole h]; exact bl_nb (W_nb32 _ _)
  · have h0 : J ≠ 0 := fun z0 => h (.inl z0)
    have h1 : ¬ (z + (J : Nat)) % 10 = 0 := fun z0 => h (.inr z0)
    rw [hds_short h0 h1]
    have := lcp_le (W (y J) p) (W (y (J - 1)) p)
    exact bl_cut (W_nb32 _ _) (by omega)
/-- one blank too few -/
theorem bad_less {y : Nat → Int} {p J : Nat} {z : Int} (h : 0 < bl (hds y p z J)) : Bad y p z J (cutS (W (y J) p) (bl (hds y p z J) - 1)) := by
  have hw : ¬ whole z J := fun c => by have := (bl_hds (y := y) (p := p)).1 c; omega
  have hb := (bl_hds (y := y) (p := p)).2 hw
  have h0 : J ≠ 0 := fun z0 => hw (.inl z0)
  have h1 : ¬ (z + (J : Nat)) % 10 = 0 := fun z0 => hw (.inr z0)
  have l := lcp_le (W (y J) p) (W (y (J - 1)) p)
  obtain ⟨m, hm⟩ : ∃ m, m = bl (hds y p z J) := ⟨_, rfl⟩
  rw [← hm] at h hb ⊢
  have pn : pvw (wds y p) J = some (W (y (J - 1)) p) := by unfold pvw; rw [if_neg h0]
  have hj : jn (pvw (wds y p) J) (cutS (W (y J) p) (m - 1)) = W (y J) p := by
    rw [pn]
    show List.take _ _ ++ List.drop _ _ = _
    rw [bl_cut (W_nb32 _ _) (by omega), ← lcp_take (W (y J) p) _ _ (show m - 1 ≤ lcp (W (y J) p) (W (y (J - 1)) p) by omega)]
    unfold cutS
    rw [List.drop_left' (by simp), List.take_append_drop]
  refine bad_head ?_
  rw [hj]
  intro e
  have e2 : hdt (W (y J) p) (pvw (wds y p) J) (z + (J : Nat)) = hds y p z J := rfl
  rw [e2] at e
  have e3 := congrArg bl e
  rw [← hm, bl_cut (W_nb32 _ _) (by omega)] at e3
  omega
/-- one blank too many -/
theorem bad_more {y : Nat → Int} {p J : Nat} {z : Int} (hw : ¬ whole z J) (h2 : 1 < (pos (W (y J) p)).length) (h : bl (hds y p z J) = told (W (y J) p)) : Bad y p z J (cutS (W (y J) p) (told (W (y J) p) + 1)) := by
  have h0 : J ≠ 0 := fun z0 => hw (.inl z0)
  have h1 : ¬ (z + (J : Nat)) % 10 = 0 := fun z0 => hw (.inr z0)
  obtain ⟨t1, t2⟩ := told_behind h2
  have pn : pvw (wds y p) J = some (W (y (J - 1)) p) := by unfold pvw; rw [if_neg h0]
  have l := lcp_le (W (y J) p) (W (y (J - 1)) p)
  have hb := (bl_hds (y := y) (p := p)).2 hw
  rw [h] at hb
  obtain ⟨m, hm⟩ : ∃ m, m = told (W (y J) p) := ⟨_, rfl⟩
  rw [← hm] at t1 t2 hb ⊢
  have hj : jn (pvw (wds y p) J) (cutS (W (y J) p) (m + 1)) = (W (y (J - 1)) p).take (m + 1) ++ (W (y J) p).drop (m + 1) := by
    rw [pn]
    show List.take _ _ ++ List.drop _ _ = _
    rw [bl_cut (W_nb32 _ _) (by omega)]
    unfold cutS
    rw [List.drop_left' (by simp)]
  refine bad_head ?_
  rw [hj]
  intro e
  obtain ⟨w, hwv⟩ : ∃ w, w = (W (y (J - 1)) p).take (m + 1) ++ (W (y J) p).drop (m + 1) := ⟨_, rfl⟩
  rw [← hwv, pn] at e
  have e2 : hdt w (some (W (y (J - 1)) p)) (z + (J : Nat)) = cutS w (min (lcp w (W (y (J - 1)) p)) (told w)) := if_neg h1
  rw [e2] at e
  have nb : ∀ c ∈ w, c ≠ 32 := fun c hc => by
    rw [hwv, List.mem_append] at hc
    rcases hc with hc | hc
    · exact W_nb32 _ _ c (List.mem_of_mem_take hc)
    · exact W_nb32 _ _ c (List.mem_of_mem_drop hc)
  have l2 := lcp_le w (W (y (J - 1)) p)
  have e3 := congrArg bl e
  rw [bl_cut nb (by omega), bl_cut (W_nb32 _ _) t1] at e3
  have lw : m + 1 ≤ w.length := by omega
  have lt : told w ≤ m := by
    refine told_le_of lw ?_
    rw [hwv, List.drop_left' (by rw [List.length_take]; omega)]
    exact t2
  omega
/-- a blank ahead of a whole line -/
theorem bad_blank {y : Nat → Int} {p J : Nat} {z : Int} (hw : whole z J) : Bad y p z J (32 :: hds y p z J) := by
  rw [hds_whole hw]
  have nb := W_nb32 (y J) p
  by_cases h0 : J = 0
  · refine bad_print fun x q e => ?_
    have pn : pvw (wds y p) J = none := if_pos h0
    rw [pn] at e
    have e : 32 :: W (y J) p = W x q := e
    have : (32 : Nat) ∈ W x q := by rw [← e]; exact List.mem_cons_self
    exact W_nb32 x q 32 this rfl
  · have h1 : (z + (J : Nat)) % 10 = 0 := by rcases hw with h | h; · exact absurd h h0
                                             · exact h
    have pn : pvw (wds y p) J = some (W (y (J - 1)) p) := by unfold pvw; rw [if_neg h0]
    refine bad_head ?_
    intro e
    rw [pn] at e
    have e2 : ∀ w, hdt w (some (W (y (J - 1)) p)) (z + (J : Nat)) = w := fun w => if_pos h1
    rw [e2] at e
    have hb : bl (32 :: W (y J) p) = 1 := by
      have h := bl_cut (w := 32 :: W (y J) p) (m := 0)
      unfold bl
      rw [List.dropWhile_cons_of_pos (by simp)]
      have := bl_nb nb
      unfold bl at this
      have l := dropW_le (· == 32) (W (y J) p)
      rw [List.length_cons]
      omega
    have e3 : jn (some (W (y (J - 1)) p)) (32 :: W (y J) p) = (W (y (J - 1)) p).take 1 ++ W (y J) p := by
      show List.take _ _ ++ List.drop _ _ = _
      rw [hb]; rfl
    rw [e3] at e
    cases q : W (y (J - 1)) p with
    | nil => exact W_ne _ _ q
    | cons c r =>
      rw [q] at e
      have e4 : c :: W (y J) p = 32 :: W (y J) p := e
      have e5 := (List.cons.inj e4).1
      exact W_nb32 (y (J - 1)) p c (by rw [q]; exact List.mem_cons_self) e5
/-- one figure too many -/
theorem bad_naught {y : Nat → Int} {p J : Nat} {z : Int} (h0 : J ≠ 0) (h46 : 46 ∈ W (y J) p) : Bad y p z J (hds y p z J ++ [48]) := by
  have pn : pvw (wds y p) J = some (W (y (J - 1)) p) := by unfold pvw; rw [if_neg h0]
  have nb2 : ∀ c ∈ W (y J) p ++ [48], c ≠ 32 := fun c hc => by
    rcases List.mem_append.1 hc with hc | hc
    · exact W_nb32 _ _ c hc
    · rw [List.mem_singleton.1 hc]; omega
  have l := lcp_le (W (y J) p) (W (y (J - 1)) p)
  have hj : jn (pvw (wds y p) J) (hds y p z J ++ [48]) = W (y J) p ++ [48] := by
    rw [pn]
    show List.take _ _ ++ List.drop _ _ = _
    by_cases hw : whole z J
    · rw [hds_whole hw, bl_nb nb2]; simp
    · have h1 : ¬ (z + (J : Nat)) % 10 = 0 := fun z0 => hw (.inr z0)
      rw [hds_short h0 h1]
      obtain ⟨m, hm⟩ : ∃ m, m = min (lcp (W (y J) p) (W (y (J - 1)) p)) (told (W (y J) p)) := ⟨_, rfl⟩
      rw [← hm]
      have e : cutS (W (y J) p) m ++ [48] = cutS (W (y J) p ++ [48]) m := by
        unfold cutS
        rw [List.drop_append_of_le_length (by omega), List.append_assoc]
      rw [e, bl_cut nb2 (by rw [List.length_append]; omega), ← lcp_take (W (y J) p) _ _ (show m ≤ lcp (W (y J) p) (W (y (J - 1)) p) by omega)]
      unfold cutS
      rw [List.drop_left' (by simp), List.drop_append_of_le_length (by omega), ← List.append_assoc, List.take_append_drop]
  refine .inr (.inl ?_)
  rw [if_neg h0, hj]
  rintro ⟨x, e⟩
  have e1 := congrArg plN e
  have e2 := W_plN (y J) p
  rw [W_plN] at e1
  unfold plN at e1 e2
  rw [if_pos h46] at e2
  rw [if_pos (List.mem_append_left _ h46), List.idxOf_append, if_pos h46, List.length_append, List.length_singleton] at e1
  have := List.idxOf_lt_length_iff.2 h46
  omega
end K81

set_option Elab.async false
set_option linter.all false
set_option maxRecDepth 100000
set_option maxHeartbeats 4000000
set_option exponentiation.threshold 600
namespace K81
open PySem MP
@[simp] theorem lx : Str.ofString "x" = tx [120] := by decide +kernel
@[simp] theorem lc : Str.ofString "," = tx [44] := by decide +kernel
@[simp] theorem lpl : Str.ofString "+" = tx [43] := by decide +kernel
@[simp] theorem lmz : Str.ofString "-0" = tx [45, 48] := by decide +kernel
@[simp] theorem mt_starts (l : List Nat) (c : Nat) (st : Sto) : mtop .startswith (.str (tx l)) [.str (tx [c])] st = ok (.bl (decide (l.take 1 = [c]))) st := by
  show ok (D.bl (PySem.Txt.startswith (tx l) (tx [c]))) st = _
  rw [starts_one]
theorem bent_run {n : Nat} {s : BagB} {g : Sto} {y : Nat → Int} {k p J : Nat} {z : Int} (h : Pg y k p z) (hJ : J < k) (ho : s.Ok) (hc : s.cnt < 1000000000) :
    MP.Run (MP.call tab.P (n + 3) "_law_bent" [.loc 2, .tup (Ts (hds y p z) k), .tup (Ts (wds y p) k), .int z, .int (J : Nat)] (s.objs ++ g)) fun d st => ∃ t s', d = .str (tx t) ∧ t.length ≤ 300 ∧ Bad y p z J t ∧ st = BagB.objs s' ++ g ∧ s'.Ok ∧ s'.cnt ≤ s.cnt + 2 := by
  refine Run_call P__law_bent rfl ?_
  unfold b__law_bent
  obtain ⟨T, hT⟩ : ∃ T, T = hds y p z J := ⟨_, rfl⟩
  obtain ⟨w, hw⟩ : ∃ w, w = W (y J) p := ⟨_, rfl⟩
  have a1 : atI (Ts (hds y p z) k) (J : Int) = some (.str (tx T)) := by rw [hT]; exact Ts_at hJ
  have a2 : atI (Ts (wds y p) k) (J : Int) = some (.str (tx w)) := by rw [hw]; exact Ts_at hJ
  have lT : T.length = w.length := by rw [hT, hw]; exact hdt_len _ _ _
  have lw : w.length ≤ 40 := by rw [hw]; exact h.len hJ
  have lD := dropW_le (· == 32) T
  have eb : (T.length : Int) - ((T.dropWhile (· == 32)).length : Nat) = (bl T : Nat) := by unfold bl; omega
  have bT := bl_le T
  simp [a1, show T.length ≤ 16777216 by omega, lstrip_eq, show (T.dropWhile (· == 32)).length ≤ 16777216 by omega, eb]
  refine MP.Run_bnd (draw ho (by omega) (by omega) (by omega)) ?_
  rintro _ _ ⟨r, s1, rfl, rfl, ho1, hc1, r0, r1⟩
  have wl : w.length < 4611686018427387904 := by omega
  have lw2 : w.length ≤ 16777216 := by omega
  have lT2 : T.length ≤ 16777216 := by omega
  have e1 := comp_pos (C := call tab.P (n + 2)) (σ := [some (.loc 2), some (.tup (Ts (hds y p z) k)), some (.tup (Ts (wds y p) k)), some (.int z), some (.int (J : Nat)), some (.str (tx T)), some (.int (bl T : Nat)), some (.int r), none, none]) (st := s1.objs ++ g) (a := 9) (cs := [(.cmp .In (.ix (.ix (.v 2) (.v 4)) (.v 9)) (.str "0123456789"))]) w (by rw [LINE_eq]; omega) (by simp) (fun i hi => evc_bl _ _ _ _ _ (by
    simp [a2, atI_tx hi, lw2, -List.getD_eq_getElem?_getD]))
  simp only [ld] at e1
  have ib : ∀ (c : Prop) [Decidable c] (a b : Bool) (st : Sto), (if c then ok (D.bl a) st else ok (D.bl b) st) = ok (D.bl (if c then a else b)) st := fun c _ a b st => by split <;> rfl
  have wn : w ≠ [] := by rw [hw]; exact W_ne _ _
  have wp := List.length_pos_iff.2 wn
  have Tn : T = T.take (T.length - 1) ++ [T.getLast (by intro z0; rw [z0] at lT; simp at lT; omega)] := by
    rw [← List.dropLast_eq_take, List.dropLast_concat_getLast]
  have e2 : 1 < (pos w).length → atI ((pos w).map fun i => D.int (i : Nat)) (-2) = some (.int (told w : Nat)) := pos_atI
  have pw := pos_le w
  have fin : ∀ (x1 x2 x3 x4 x6 x7 x8 x9 : Option D) (t : Sto), MP.Run (exs (call tab.P (n + 2)) [.ret (.bin .Add (.slB (.v 5) (.neg (.int 1))) (.ix (.lst [(.str (tx [44])), (.str (tx [45])), (.str (tx [43])), (.str (tx [120]))]) (.call "_law_draw" [(.v 0), (.int 4)] [])))] [some (.loc 2), x1, x2, x3, x4, some (.str (tx T)), x6, x7, x8, x9] (s1.objs ++ (g ++ t))) (Fin (s.objs ++ g) fun d st => ∃ t s', d = .str (tx t) ∧ t.length ≤ 300 ∧ Bad y p z J t ∧ st = BagB.objs s' ++ g ∧ s'.Ok ∧ s'.cnt ≤ s.cnt + 2) := by
    intro x1 x2 x3 x4 x6 x7 x8 x9 t
    simp [lT2]
    refine MP.Run_bnd (draw ho1 (by omega) (by omega) (by omega)) ?_
    rintro _ _ ⟨r, s2, rfl, rfl, ho2, hc2, r0, r1⟩
    have gi : (s2.objs ++ (g ++ (t ++ [O.lst [D.str (tx [44]), D.str (tx [45]), D.str (tx [43]), D.str (tx [120])]])))[3 + (g.length + t.length)]? = some (O.lst [D.str (tx [44]), D.str (tx [45]), D.str (tx [43]), D.str (tx [120])]) := by
      rw [objs_get, List.getElem?_append_right (by omega), List.getElem?_append_right (by omega)]
      simp
    obtain ⟨c, ec, c1, c2⟩ : ∃ c, atI [D.str (tx [44]), D.str (tx [45]), D.str (tx [43]), D.str (tx [120])] r = some (.str (tx [c])) ∧ c ≠ 32 ∧ ¬ (48 ≤ c ∧ c ≤ 57) := by
      have : r = 0 ∨ r = 1 ∨ r = 2 ∨ r = 3 := by omega
      rcases this with rfl | rfl | rfl | rfl <;> exact ⟨_, rfl, by omega, by omega⟩
    simp [gi, ec, lT2]
    refine ⟨by omega, bad_last c1 c2, s2, ?_, ho2, by omega⟩
    exact gcB (by simp)
  have fin := fun x1 x2 x3 x4 x6 x7 x8 x9 => fin x1 x2 x3 x4 x6 x7 x8 x9 [O.lst ((pos w).map fun i => D.int (i : Nat))]
  simp [lT2] at fin
  have j0 : J = 0 ∨ ¬ J = 0 := by omega
  have z0 : (z + (J : Nat)) % 10 = 0 ∨ ¬ (z + (J : Nat)) % 10 = 0 := by omega
  rcases (show r = 0 ∨ r = 1 ∨ r = 2 ∨ r = 3 ∨ r = 4 ∨ r = 5 ∨ r = 6 by omega) with rfl | rfl | rfl | rfl | rfl | rfl | rfl
  · by_cases c : 0 < bl T
    · obtain ⟨m, hm⟩ : ∃ m, bl T = m + 1 := ⟨bl T - 1, by omega⟩
      rw [hm] at e1
      have hb := bad_less (y := y) (p := p) (z := z) (J := J) (by rw [← hT]; exact c)
      rw [← hT, hm, ← hw] at hb
      simp at e1
      simp [e1, wipe, a2, lw2, wl, hm, show -1000 ≤ (m : Int) ∧ (m : Int) ≤ 1000 by omega, show m + (w.length - m) ≤ 16777216 by omega]
      exact ⟨by omega, hb, s1, gcB (by simp), ho1, by omega⟩
    · simp [e1, wipe, a2, lw2, wl, c, lT2]
      exact fin
  · simp [e1, wipe, a2, lw2, wl, lT2]
    exact ⟨by omega, bad_last (c := 120) (by omega) (by omega), s1, gcB (by simp), ho1, by omega⟩
  · have hb := fun h => bad_blank (y := y) (p := p) (J := J) (z := z) h
    rw [← hT] at hb
    rcases j0 with j0 | j0
    · have hb := hb (.inl j0)
      simp [e1, wipe, a2, lw2, wl, lT2, eq_true j0, show 1 + T.length ≤ 16777216 by omega]
      exact ⟨by omega, hb, s1, gcB (by simp), ho1, by omega⟩
    · rcases z0 with z0 | z0
      · have hb := hb (.inr z0)
        simp [e1, wipe, a2, lw2, wl, lT2, eq_false j0, eq_true z0, show 1 + T.length ≤ 16777216 by omega]
        exact ⟨by omega, hb, s1, gcB (by simp), ho1, by omega⟩
      · simp [e1, wipe, a2, lw2, wl, lT2, eq_false j0, eq_false z0]
        exact fin
  · simp [e1, wipe, a2, lw2, wl, lT2]
    exact ⟨bad_empty, s1, gcB (by simp), ho1, by omega⟩
  · by_cases c : 46 ∈ w
    · by_cases j1 : J = 0
      · simp [e1, wipe, a2, lw2, wl, lT2, eq_true j1, show ¬ 0 < J by omega]
        exact fin
      · have hb := bad_naught (y := y) (p := p) (z := z) j1 (by rw [← hw]; exact c)
        rw [← hT] at hb
        simp [e1, wipe, a2, lw2, wl, lT2, eq_false j1, c, show 0 < J by omega, show T.length ≤ 16777215 by omega]
        exact ⟨by omega, hb, s1, gcB (by simp), ho1, by omega⟩
    · by_cases j1 : J = 0
      · simp [e1, wipe, a2, lw2, wl, lT2, eq_true j1, show ¬ 0 < J by omega]
        exact fin
      · simp [e1, wipe, a2, lw2, wl, lT2, eq_false j1, c, show 0 < J by omega]
        exact fin
  · have c' : (1 < (((pos w).length : Nat) : Int)) = (1 < (pos w).length) := propext (by omega)
    have c2' : ((bl T : Int) = (told w : Int)) = (bl T = told w) := propext (by omega)
    by_cases c : 1 < (pos w).length
    · by_cases c2 : bl T = told w
      · rcases j0 with j0 | j0
        · simp [e1, wipe, a2, lw2, wl, lT2, eq_true j0, c, e2 c, c', c2', eq_true c2, show ¬ 0 < J by omega]
          exact fin
        · rcases z0 with z0 | z0
          · simp [e1, wipe, a2, lw2, wl, lT2, eq_false j0, eq_true z0, c, e2 c, c', c2', eq_true c2, show 0 < J by omega]
            exact fin
          · have nw : ¬ whole z J := fun q => q.elim j0 z0
            have hb := bad_more (y := y) (p := p) nw (by rw [← hw]; exact c) (by rw [← hT, ← hw]; exact c2)
            rw [← hw] at hb
            have eS : T = cutS w (told w) := by
              have q1 := hds_short (y := y) (p := p) (z := z) j0 z0
              have q2 := (bl_hds (y := y) (p := p) (z := z)).2 nw
              rw [← q2, ← hT, ← hw, c2] at q1
              exact q1
            have eD : T.drop (told w + 1) = w.drop (told w + 1) := by
              rw [eS]
              unfold cutS
              rw [List.drop_append, List.drop_of_length_le (by simp), List.length_replicate, Nat.add_sub_cancel_left, List.drop_drop]
              rfl
            have tl := told_le w
            have cc : cutD T (some ((told w : Int) + 1)) none = w.drop (told w + 1) := by
              rw [cut_from T (by omega), ← eD]
              congr 1
            have rr : List.replicate ((told w : Int) + 1).toNat 32 = List.replicate (told w + 1) 32 := by congr 1
            simp [e1, wipe, a2, lw2, wl, lT2, eq_false j0, eq_false z0, c, e2 c, c', c2', eq_true c2, show 0 < J by omega]
            rw [c2]
            simp [lT2, cc, rr, show -1000 ≤ (told w : Int) + 1 ∧ (told w : Int) + 1 ≤ 1000 by omega, show told w + 1 + (w.length - (told w + 1)) ≤ 16777216 by omega]
            exact ⟨by omega, hb, s1, gcB (by simp), ho1, by omega⟩
      · simp [e1, wipe, a2, lw2, wl, lT2, c, e2 c, c', c2', eq_false c2]
        exact fin
    · simp [e1, wipe, a2, lw2, wl, lT2, c', c]
      exact fin
  · have hb := fun h => bad_zero (y := y) (p := p) (J := J) (z := z) h
    rw [← hw] at hb
    rcases j0 with j0 | j0
    · have hb := hb (.inl j0)
      have eT : T = w := by rw [hT, hw]; exact hds_whole (.inl j0)
      simp [e1, wipe, a2, lw2, wl, lT2, eq_true j0, eT]
      by_cases q : w.take 1 = [45]
      · rw [if_pos q, List.drop_one] at hb
        simp [starts_one, q, show 2 + (w.length - 1) ≤ 16777216 by omega]
        exact ⟨by omega, hb, s1, rfl, ho1, by omega⟩
      · rw [if_neg q] at hb
        simp [starts_one, q, show 1 + w.length ≤ 16777216 by omega]
        exact ⟨by omega, hb, s1, rfl, ho1, by omega⟩
    · rcases z0 with z0 | z0
      · have hb := hb (.inr z0)
        have eT : T = w := by rw [hT, hw]; exact hds_whole (.inr z0)
        simp [e1, wipe, a2, lw2, wl, lT2, eq_false j0, eq_true z0, eT]
        by_cases q : w.take 1 = [45]
        · rw [if_pos q, List.drop_one] at hb
          simp [starts_one, q, show 2 + (w.length - 1) ≤ 16777216 by omega]
          exact ⟨by omega, hb, s1, rfl, ho1, by omega⟩
        · rw [if_neg q] at hb
          simp [starts_one, q, show 1 + w.length ≤ 16777216 by omega]
          exact ⟨by omega, hb, s1, rfl, ho1, by omega⟩
      · simp [e1, wipe, a2, lw2, wl, lT2, eq_false j0, eq_false z0]
        exact fin
end K81

set_option Elab.async false
set_option linter.all false
set_option maxRecDepth 100000
set_option maxHeartbeats 4000000
set_option exponentiation.threshold 600
namespace K81
open PySem MP
theorem refused_ok {n : Nat} {T wd : Nat → List Nat} {y : Nat → Int} {p : Nat} {z : Int} {k J : Nat} {st : Sto} (h : Un T wd y p z k J) (hJ : J < k) : MP.call tab.P (n + 5) "_law_refused" [.tup (Ts T k), .int z] st = ok (.int ((J : Int) + 1)) st := by
  obtain ⟨x, s, e, rfl, rfl⟩ := unheads_ok (n := n) (st := st) h
  rw [if_pos hJ] at e
  refine RX_eq (RX_call P__law_refused rfl ?_)
  unfold b__law_refused
  simp [e]
theorem unheads_eq {n : Nat} {y : Nat → Int} {k p : Nat} {z : Int} {st : Sto} (h : Pg y k p z) : MP.call tab.P (n + 4) "unheads" [.tup (Ts (hds y p z) k), .int z] st = ok (.tup (Ts (wds y p) k)) st := by
  obtain ⟨x, s, e, rfl, rfl⟩ := unheads_ok (n := n) (st := st) (Un_page h)
  rw [if_neg (Nat.lt_irrefl _)] at e
  exact e
theorem same {d : D} {st : Sto} (h : sam 10 d = true) : MP.call tab.P 49 "_law_same" [d, d] st = ok (.bl true) st := same_ok P__law_same 10 38 d st h
def I1 (ns : List Int) (i : Nat) (σ : MP.Env) (st : Sto) : Prop :=
  ∃ s g, st = BagB.objs s ++ g ∧ s.Ok ∧ s.cnt ≤ 1 + 1000 * i ∧ ∃ x2 x3 x4 x5 x6 x7 x8 x9 x10 x11 x12, σ = [some (scriptD ns), some (.loc 2), x2, x3, x4, x5, x6, x7, x8, x9, x10, x11, x12]
theorem putTs (f : Nat → List Nat) {k J : Nat} (t : List Nat) (h : J < k) : (Ts f k).take J ++ (.str (tx t) :: (Ts f k).drop (J + 1)) = Ts (put f J t) k := by
  refine List.ext_getElem (by simp; omega) fun i h1 h2 => ?_
  have h2 : i < k := by simpa using h2
  have l : ((Ts f k).take J).length = J := by simp; omega
  have e : ∀ i (h : i < (Ts f k).length), (Ts f k)[i] = .str (tx (f i)) := fun i h => Ds_getElem h
  have e' : ∀ i (h : i < (Ts (put f J t) k).length), (Ts (put f J t) k)[i] = .str (tx (put f J t i)) := fun i h => Ds_getElem h
  rw [e']
  unfold put
  by_cases c : i < J
  · rw [List.getElem_append_left (by omega), List.getElem_take, e, if_neg (by omega)]
  · rw [List.getElem_append_right (by omega)]
    by_cases c2 : i = J
    · subst c2
      simp [l]
    · rw [if_neg c2, List.getElem_cons]
      rw [dif_neg (by omega), List.getElem_drop, e]
      congr 3
      omega
def lev : Nat := 50
theorem law_true : ∀ ns : List Int, ns.length ≤ 63 → (∀ z ∈ ns, Builtin.Int.intBits z ≤ 1048576) → ∃ st', MP.call tab.P lev "law" [scriptD ns] [] = some (.ok (.bl true), st') := by
  intro ns hl hb
  suffices h : MP.Run (MP.call tab.P 50 "law" [scriptD ns] []) (fun d _ => d = .bl true) by
    obtain ⟨d, st, e, rfl⟩ := h
    exact ⟨st, e⟩
  refine Run_call P_law rfl ?_
  unfold b_law
  obtain ⟨s, hs, ho, hc⟩ := startB_ok P__law_mixed P__law_draw P__law_start (n := 46) (ns := ns) hl fun z hz => bits_sml (hb z hz)
  have hs' : MP.call tab.P 49 "_law_start" [scriptD ns] [] = ok (.loc 2) s.objs := hs
  simp [hs']
  refine MP.Run_bnd (P := fun f st => ∃ σ, f = .nx σ ∧ I1 ns 3 σ st) (Run_rng (I1 ns) ⟨s, [], by simp, ho, by omega, _, _, _, _, _, _, _, _, _, _, _, rfl⟩ ?_ fun σ st h => ⟨σ, rfl, h⟩) ?_
  · rintro i σ st hi ⟨s, g, rfl, ho, hc, x2, x3, x4, x5, x6, x7, x8, x9, x10, x11, x12, rfl⟩
    simp
    refine MP.Run_bnd (page_run ho (by omega)) ?_
    rintro _ _ ⟨y, k, p, z, s1, rfl, hp, hk30, rfl, ho1, hc1⟩
    have k0 := hp.k0
    have p6 := hp.p
    have e1 := fun st => comp_map (g := []) (tg := .v 12) (σw := [some (scriptD ns), some (.loc 2), some (.int i), some (.tup (Zs y k)), some (.int (p : Nat)), some (.int z), x6, x7, x8, x9, x10, x11, none]) (C := MP.call tab.P 49) (elt := .call "_law_words" [(.v 12), (.v 4)] []) (h := fun d => match d with | .int y => .str (tx (W y p)) | d => d) (ds := Zs y k) (st := st) (held_nil st) (by rw [LINE_eq, Zs_length]; omega) (fun d hd => by
      obtain ⟨j, hj, rfl⟩ := List.mem_map.1 hd
      have hj := List.mem_range.1 hj
      have lw := law_words_ok (n := 48) (y := y j) (p := p) (st := st) (Nat.lt_of_lt_of_le (hp.y j hj) (Nat.pow_le_pow_right (by decide) (by decide))) (by omega)
      refine ⟨_, asgG_v _ _ _, ?_⟩
      simp [lw])
    have e2 : (Zs y k).map (fun d => match d with | .int y => D.str (tx (W y p)) | d => d) = Ts (wds y p) k := by
      unfold Zs Ts Ds
      rw [List.map_map]
      rfl
    rw [e2] at e1
    have k4 : k < 4611686018427387904 := by omega
    simp [asgG, asgGs, wipe, e1, k4]
    obtain ⟨g1, hg1⟩ : ∃ g1, g1 = g ++ [O.lst (Ts (wds y p) k)] := ⟨_, rfl⟩
    have q1 : s1.objs ++ (g ++ [O.lst (Ts (wds y p) k), O.lst []]) = s1.objs ++ (g1 ++ O.lst [] :: []) := by rw [hg1]; simp
    have q2 : g.length + 1 = g1.length := by rw [hg1]; simp
    rw [q1, q2]
    refine MP.Run_bnd (P := fun f st => ∃ x8 x9, f = .nx [some (scriptD ns), some (.loc 2), some (.int (i : Nat)), some (.tup (Zs y k)), some (.int (p : Nat)), some (.int z), some (.tup (Ts (wds y p) k)), some (.loc (3 + g1.length)), x8, x9, x10, x11, x12] ∧ st = s1.objs ++ (g1 ++ O.lst (Ts (hds y p z) k) :: []))
      (Run_rng (fun j σ st => ∃ x8 x9, σ = [some (scriptD ns), some (.loc 2), some (.int (i : Nat)), some (.tup (Zs y k)), some (.int (p : Nat)), some (.int z), some (.tup (Ts (wds y p) k)), some (.loc (3 + g1.length)), x8, x9, x10, x11, x12] ∧ st = s1.objs ++ (g1 ++ O.lst (Ts (hds y p z) j) :: []))
        ⟨_, _, rfl, rfl⟩ ?_ fun σ st h => by obtain ⟨x8, x9, rfl, h⟩ := h; exact ⟨_, _, rfl, h⟩) ?_
    · rintro j σ st hj ⟨x8, x9, rfl, rfl⟩
      have a1 : atI (Ts (wds y p) k) (j : Int) = some (.str (tx (W (y j) p))) := Ts_at hj
      have w1 := hp.len hj
      by_cases j0 : j = 0
      · have hh : hds y p z j = W (y j) p := hds_whole (.inl j0)
        simp [eq_true j0, a1, isLst, objs_setB, show j < 16777216 by omega, Ts_succ, hh]
      · by_cases z0 : (z + (j : Nat)) % 10 = 0
        · have hh : hds y p z j = W (y j) p := hds_whole (.inr z0)
          simp [eq_false j0, eq_true z0, a1, isLst, objs_setB, show j < 16777216 by omega, Ts_succ, hh]
        · obtain ⟨m, rfl⟩ : ∃ m, j = m + 1 := ⟨j - 1, by omega⟩
          have a2 : atI (Ts (wds y p) k) (m : Int) = some (.str (tx (W (y m) p))) := Ts_at (by omega)
          have w2 := hp.len (show m < k by omega)
          have hh : hds y p z (m + 1) = short (W (y (m + 1)) p) (W (y m) p) := hds_short j0 z0
          have ls := fun st => law_short_ok (n := 48) (w := W (y (m + 1)) p) (e := W (y m) p) (st := st) (by omega) (by omega)
          simp at a1 z0 ls
          simp [eq_false z0, a1, a2, ls, isLst, objs_setB, show m + 1 < 16777216 by omega, Ts_succ (hds y p z) (m + 1), hh, show ¬ (m : Int) + 1 = 0 by omega]
    · rintro _ _ ⟨x8, x9, rfl, rfl⟩
      have h1 := fun st => heads_ok (n := 46) (st := st) hp
      have h2 := fun st => unheads_eq (n := 45) (st := st) hp
      have s1' : sam 10 (.tup [.tup (Ts (hds y p z) k), .tup (Ts (hds y p z) k)]) = true := by simp; omega
      have s2' : sam 10 (.tup [.tup (Ts (wds y p) k), .tup (Ts (wds y p) k)]) = true := by simp; omega
      simp at h1 h2
      simp [h1, h2, same s1', same s2']
      refine MP.Run_bnd (P := fun f st => ∃ s2 x8 x10 x11, f = .nx [some (scriptD ns), some (.loc 2), some (.int (i : Nat)), some (.tup (Zs y k)), some (.int (p : Nat)), some (.int z), some (.tup (Ts (wds y p) k)), some (.tup (Ts (hds y p z) k)), x8, x9, x10, x11, x12] ∧ st = BagB.objs s2 ++ (g1 ++ [O.lst (Ts (hds y p z) k)]) ∧ s2.Ok ∧ s2.cnt ≤ s1.cnt + 9)
        (Run_rng (fun j σ st => ∃ s2 x8 x10 x11, σ = [some (scriptD ns), some (.loc 2), some (.int (i : Nat)), some (.tup (Zs y k)), some (.int (p : Nat)), some (.int z), some (.tup (Ts (wds y p) k)), some (.tup (Ts (hds y p z) k)), x8, x9, x10, x11, x12] ∧ st = BagB.objs s2 ++ (g1 ++ [O.lst (Ts (hds y p z) k)]) ∧ s2.Ok ∧ s2.cnt ≤ s1.cnt + 3 * j)
          ⟨s1, _, _, _, rfl, rfl, ho1, by omega⟩ ?_ ?_) ?_
      · rintro j σ st hj ⟨s2, x8, x10, x11, rfl, rfl, ho2, hc2⟩
        simp [show k ≤ 16777216 by omega]
        refine MP.Run_bnd (draw ho2 (by omega) (by omega) (by omega)) ?_
        rintro _ _ ⟨r, s3, rfl, rfl, ho3, hc3, r0, r1⟩
        obtain ⟨J, rfl⟩ : ∃ J : Nat, r = (J : Int) := ⟨r.toNat, by omega⟩
        have hJ : J < k := by omega
        simp [show k ≤ 16777216 by omega]
        refine MP.Run_bnd (bent_run hp hJ ho3 (by omega)) ?_
        rintro _ _ ⟨t, s4, rfl, lt, bd, rfl, ho4, hc4⟩
        have cc : cutD (Ts (hds y p z) k) (some ((J : Int) + 1)) none = (Ts (hds y p z) k).drop (J + 1) := by
          rw [cut_from _ (by omega)]; congr 1
        have rf := fun st => refused_ok (n := 44) (st := st) (Un_bent hp hJ lt bd) hJ
        have pt := putTs (hds y p z) t hJ
        simp at rf
        have t1 : ∀ st, binop .Add (.tup ((Ts (hds y p z) k).take J)) (.tup [.str (tx t)]) st = ok (.tup ((Ts (hds y p z) k).take J ++ [.str (tx t)])) st := fun st => add_tt (by rw [LINE_eq]; simp; omega)
        have t2 : ∀ st, binop .Add (.tup ((Ts (hds y p z) k).take J ++ [.str (tx t)])) (.tup ((Ts (hds y p z) k).drop (J + 1))) st = ok (.tup (Ts (put (hds y p z) J t) k)) st := fun st => by
          rw [add_tt (by rw [LINE_eq]; simp; omega), ← pt]
          simp
        have sj : sam 10 (.int ((J : Int) + 1)) = true := by simp
        simp [cc, t1, t2, rf, same sj]
        exact ⟨s4, rfl, ho4, by omega⟩
      · rintro σ st ⟨s2, x8, x10, x11, rfl, rfl, ho2, hc2⟩
        exact ⟨s2, _, _, _, rfl, rfl, ho2, by omega⟩
      · rintro _ _ ⟨s2, x8, x10, x11, rfl, rfl, ho2, hc2⟩
        simp
        exact ⟨s2, _, rfl, ho2, by omega, _, _, _, _, _, _, _, _, _, _, _, rfl⟩
  · rintro _ st ⟨σ, rfl, s, g, rfl, ho, hc, x2, x3, x4, x5, x6, x7, x8, x9, x10, x11, x12, rfl⟩
    simp
end K81

set_option Elab.async false
set_option linter.all false
set_option maxRecDepth 100000
set_option maxHeartbeats 0
namespace K81
open PySem PySem.Spec PyProof.Rows L2 MP
abbrev R : PySem.W.OpenRow := PySem.W.OpenLaw.row PySem.Challenge.rw_lastfigure_k81_heads
abbrev hk : PySem.W.Hook := hookY 4 tab.fa tab.fn tab.tf tab.ex
def ob (s : PySem.W.SharedT) : He.AlX := obsY 4 tab.fa tab.fn tab.tf tab.ex (HandSHeadRun.getT s)
theorem ob_eq (s : PySem.W.SharedT) : ob s = hk.obs s.abs := obsY_eq (HandSHeadRun.getT_eq s)
def loose : List PySem.Str := (["words_of", "number_of", "told_from", "same_signs", "head_of", "heads", "places_of", "is_words", "unheads", "_law_mixed", "_law_draw", "_law_start", "_law_same", "_law_words", "_law_short"] : List PySem.Str) ++ (["_law_page", "_law_refused", "_law_bent", "FIGURES_prints", "MOST_SIGNS", "FIGURES_layout", "MOST_PLACES", "FigureError", "BadText"] : List PySem.Str)
theorem run (w : World) : HandSHeadRun.RunEq R (PySem.W.view R.prog [28]) hk ob 3000 loose w := by
  intro os; kernel_rfl
end K81


open PySem PySem.W PySem.Calls PyProof.Rows
theorem PySem.Challenge.cw_lastfigure_k81_heads_holds : PySem.Challenge.rw_lastfigure_k81_heads.Holds := by
  w_on; o_law
  refine HandSHeadRun.head_any (r := OpenLaw.row PySem.Challenge.rw_lastfigure_k81_heads) (q := view (OpenLaw.row PySem.Challenge.rw_lastfigure_k81_heads).prog [28]) (H := K81.hk) (ob := K81.ob) (M := 3000) (loose := K81.loose) (d := HandSHeadRun.topDef (OpenLaw.row PySem.Challenge.rw_lastfigure_k81_heads).prog 28) (kwd := []) K81.ob_eq
    (by kernel_rfl) (fun s => by kernel_rfl) K81.run (by kernel_rfl) (by kernel_rfl) (by kernel_rfl) (by rfl) (by first | assumption | decide +kernel) (by decide +kernel) ⟨rfl, rfl, rfl, rfl, rfl, by decide +kernel⟩ ?hw ?hc
  case hw => w_witness2
  case hc =>
    refine MP.law_of (l := PySem.Challenge.rw_lastfigure_k81_heads) (n := 63) (k := K81.lev) (x := "script") (t := K81.tab) (e := K81.e_law) (by kernel_rfl) rfl (by decide) (by kernel_rfl) ⟨rfl, by decide, by decide⟩ K81.oks K81.comps (by kernel_rfl) rfl ?law
    have e : (HandSHeadRun.topDef (OpenLaw.row PySem.Challenge.rw_lastfigure_k81_heads).prog 28).name = ("law" : PySem.Str) := by kernel_rfl
    rw [e]
    exact K81.law_true
