import PyProof.Rows.All
import Wide.All
import OpenK.AllK
import Wide.FinOn
import PySem.Challenge.RW_evertreads_k12_whole_walks_step_by_step
import HandS.ForMost
import HandS.ForExc
import HandS.Deep
import HandS.Wide
import HandS.TupAny
import HandS.SortInts
import HandS.SortRule
import HandS.Conv
import HandS.IsInst
import HandS.Style
import HandS.More
import HandS.Walk
import HandS.FStr
import HandS.Text
import HandS.Replace
import HandS.CallRecv
import HandS.HeadWalk
import HandS.Iter
import HandS.Defaults
import HandS.Exc
import HandS.Property
import HandS.Star
import HandS.Words
import HandS.Head0
import HandS.Head1
import HandS.Head2
import HandS.HeadEnd
import HandS.HeadHook1
import HandS.HeadHook2
import HandS.HeadHook3
import Wide.Once
set_option Elab.async false
set_option linter.all false
set_option maxRecDepth 100000
/-! The interpreter: syntax without positions, values as trees. -/
namespace Wk
open PySem

/-- values as trees -/
inductive D where
  | non | bl (b : Bool) | int (i : Int) | str (x : Str)
  | tup (ds : List D) | lst (ds : List D)
  /-- a tuple of the written part -/
  | kt (ds : List D)
  /-- a list of the written part -/
  | kl (ds : List D)
  | dK (ks : List L2.Key) (ds : List D)
  | dT (ks : List (List L2.Key)) (ds : List D)
  | obj (c : Nat) (ds : List D)
  | ref (n : Nat)
  | kd (x : Nat)
  | g (x : Nat)
  | ty (n : String)
  deriving Inhabited

/-- what one name alone holds, or a cell of the store -/
inductive Own where
  | lst (ds : List D)
  | dK (ks : List L2.Key) (ds : List D)
  | dT (ks : List (List L2.Key)) (ds : List D)
  | ins (c : Nat) (ns : List Nat) (ds : List D)
  deriving Inhabited
inductive Sv where
  | val (d : D) | own (o : Own)
inductive Rv where
  | val (d : D) | fr (o : Own)
abbrev Env := List (Option Sv)
abbrev Sto := List Own

inductive Bi where
  | len | abs | int | str | bool | min | max | sum | any | all | sorted | list | tuple | divmod | range | enum | repr | dict
  deriving DecidableEq
inductive Sm where
  | split | join | index
  deriving DecidableEq

mutual
inductive Ex where
  | cst (d : D)
  | loc (i : Nat)
  | glb (x : Nat)
  | bin (op : Operator) (a b : Ex)
  | neg (a : Ex)
  | not (a : Ex)
  | bo (op : BoolOp) (es : Exs)
  | cmp (op : CmpOp) (a b : Ex)
  | cmp2 (op op' : CmpOp) (a b c : Ex)
  | ife (c a b : Ex)
  | bi (f : Bi) (as : Exs)
  /-- list(range(a)) -/
  | lrg (a : Ex)
  | isi (a : Ex) (t : Nat)
  | isT (a : Ex) (t : String)
  | sm (m : Sm) (o : Ex) (a : Ex)
  | call (f : Nat) (as : Exs) (kn : List Nat) (ks : Exs)
  | meth (o : Ex) (m : Nat) (as : Exs) (kn : List Nat) (ks : Exs)
  | attr (o : Ex) (f : Nat)
  | idx (a b : Ex)
  | slc (a : Ex) (lo hi : Exo)
  | rev (a : Ex)
  | tup (es : Exs)
  | lst (es : Exs)
  | dct (ks vs : Exs)
  | lc (e : Ex) (t : List Nat) (tp : Bool) (it : Ex) (ifs : Exs) (vs : List Nat)
  | lc2 (e : Ex) (t : List Nat) (tp : Bool) (it : Ex) (t2 : List Nat) (tp2 : Bool) (it2 : Ex) (ifs : Exs) (vs : List Nat)
  | dc (k v : Ex) (t : Nat) (it : Ex) (vs : List Nat)
  | fst (es : Exs)
  | fmt (e : Ex)
inductive Exs where
  | nil | cons (e : Ex) (es : Exs)
inductive Exo where
  | no | so (e : Ex)
end
instance : Inhabited Ex := ⟨.cst .non⟩
instance : Inhabited Exs := ⟨.nil⟩

mutual
inductive Tg where
  | nm (i : Nat) | at (o : Ex) (f : Nat) | sb (o i : Ex) | tp (ts : Tgs)
inductive Tgs where
  | nil | cons (t : Tg) (ts : Tgs)
end

mutual
inductive Sx where
  | asg (own : Bool) (t : Tg) (e : Ex)
  | par (ts : List Nat) (es : Exs)
  | aug (i : Nat) (op : Operator) (e : Ex)
  | exp (e : Ex)
  | app (i : Nat) (e : Ex)
  | ret (e : Ex)
  | retn
  | ife (c : Ex) (a b : Blk)
  | fr (t : List Nat) (tp : Bool) (it : Ex) (b : Blk)
  | whl (c : Ex) (b : Blk)
  | rse (c : Nat) (as : Exs)
  | pass | brk | cont
  | mv (is : List Nat) (s : Sx)
inductive Blk where
  | nil | cons (s : Sx) (b : Blk)
end

/-! ### results -/
inductive RS (α : Type) where
  | ok (a : α) (s : Sto) | ex (c : Nat) (a : Option D) (s : Sto) | no
namespace RS
def bind {α β : Type} (r : RS α) (f : α → Sto → RS β) : RS β := match r with
  | .ok a s => f a s
  | .ex c a s => .ex c a s
  | .no => .no
def ofO {α : Type} (o : Option α) (s : Sto) : RS α := match o with
  | some a => .ok a s
  | none => .no
@[simp] theorem bind_ok {α β : Type} {a : α} {s : Sto} {f : α → Sto → RS β} : (RS.ok a s).bind f = f a s := rfl
@[simp] theorem bind_ex {α β : Type} {c a s} {f : α → Sto → RS β} : (RS.ex c a s : RS α).bind f = .ex c a s := rfl
@[simp] theorem bind_no {α β : Type} {f : α → Sto → RS β} : (RS.no : RS α).bind f = .no := rfl
@[simp] theorem ofO_some {α : Type} {a : α} {s : Sto} : ofO (some a) s = .ok a s := rfl
@[simp] theorem ofO_none {α : Type} {s : Sto} : ofO (none : Option α) s = .no := rfl
end RS

inductive O where
  | nx (e : Env) (s : Sto) | rt (d : Rv) (s : Sto) | bk (e : Env) (s : Sto) | ct (e : Env) (s : Sto) | ex (c : Nat) (a : Option D) (s : Sto) | no
def O.seq (r : O) (f : Env → Sto → O) : O := match r with
  | .nx e s => f e s
  | .rt d s => .rt d s
  | .bk e s => .bk e s
  | .ct e s => .ct e s
  | .ex c a s => .ex c a s
  | .no => .no
def RS.toO {α : Type} (r : RS α) (f : α → Sto → O) : O := match r with
  | .ok a s => f a s
  | .ex c a s => .ex c a s
  | .no => .no
@[simp] theorem RS.toO_ok {α : Type} {a : α} {s : Sto} {f : α → Sto → O} : (RS.ok a s).toO f = f a s := rfl
@[simp] theorem RS.toO_ex {α : Type} {c a s} {f : α → Sto → O} : (RS.ex c a s : RS α).toO f = .ex c a s := rfl
@[simp] theorem RS.toO_no {α : Type} {f : α → Sto → O} : (RS.no : RS α).toO f = .no := rfl
@[simp] theorem O.seq_nx {e s f} : (O.nx e s).seq f = f e s := rfl
@[simp] theorem O.seq_rt {e s f} : (O.rt e s).seq f = .rt e s := rfl
@[simp] theorem O.seq_bk {e s f} : (O.bk e s).seq f = .bk e s := rfl
@[simp] theorem O.seq_ct {e s f} : (O.ct e s).seq f = .ct e s := rfl
@[simp] theorem O.seq_ex {c a s f} : (O.ex c a s).seq f = .ex c a s := rfl
@[simp] theorem O.seq_no {f} : (O.no).seq f = .no := rfl

/-- a value alone: nothing may be raised -/
def okO {α : Type} (r : RS α) : RS α := match r with
  | .ok a s => .ok a s
  | _ => .no
@[simp] theorem okO_ok {α : Type} {a : α} {s : Sto} : okO (RS.ok a s) = .ok a s := rfl
/-! ### the tables -/
structure FnI where
  pos : List Nat
  dfl : List D
  kwo : List Nat
  kdf : List (Nat × D)
  star : Bool
  nloc : Nat
  body : Blk
  /-- a list that is returned fresh becomes a cell -/
  cell : Bool := false
structure ClsI where
  flds : List Nat
  init : Nat
  /-- its instances are cells -/
  cell : Bool := false
/-- known names -/
structure IT where
  glob : Nat → Option D
  kds : Nat → List (Str × D)
  fn : Nat → Option FnI
  cls : Nat → Option ClsI
  meth : Nat → Nat → Option Nat
  prop : Nat → Nat → Option Nat
  exc : Nat → Option Nat
  /-- names that may be called -/
  kn : Nat → Bool
  names : Nat → Str
  /-- names of the special methods: __and__, __or__, __sub__, __eq__, __contains__, __bool__, __len__, __getitem__ -/
  sAnd : Nat
  sOr : Nat
  sSub : Nat
  sEq : Nat
  sIn : Nat
  sBool : Nat
  sLen : Nat
  sGet : Nat
  wf : Nat
/-- a call: the function's or the class's key, the arguments, the keywords -/
abbrev CallT := Nat → List D → List (Nat × D) → Sto → RS D

def treeO (T : IT) : Own → Option D
  | .lst ds => some (.lst ds)
  | .dK ks ds => some (.dK ks ds)
  | .dT ks ds => some (.dT ks ds)
  | .ins c ns ds => match T.cls c with
    | some ci => if ci.flds = ns ∧ ds.length = ns.length ∧ ci.cell = false then some (.obj c ds) else none
    | none => none
def frz (T : IT) : Rv → Option D
  | .val d => some d
  | .fr o => treeO T o

/-! ### data -/
mutual
def toPy : D → Option PyData
  | .non => some .none
  | .bl b => some (.bool b)
  | .int i => some (.int i)
  | .str x => some (.str x)
  | .tup ds => (toPys ds).map .tuple
  | .kt ds => (toPys ds).map .tuple
  | .lst ds => (toPys ds).map .list
  | _ => none
def toPys : List D → Option (List PyData)
  | [] => some []
  | d :: ds => (toPy d).bind fun x => (toPys ds).map fun xs => x :: xs
end
def eqD (a b : D) : Option Bool := (toPy a).bind fun x => (toPy b).bind fun y => if SeqAt.shaped x = true ∧ SeqAt.shaped y = true then some (PyData.eqv x y) else none
/-- the key of a dict -/
def keyD : D → Option L2.Key
  | .int i => some (.inl i)
  | .str x => some (.inr x)
  | _ => none
def keysD : List D → Option (List L2.Key)
  | [] => some []
  | d :: ds => (keyD d).bind fun k => (keysD ds).map fun ks => k :: ks
def findK {κ : Type} [DecidableEq κ] : List κ → List D → κ → Option D
  | k :: ks, d :: ds, x => if k = x then some d else findK ks ds x
  | _, _, _ => none
def findN : List Nat → List D → Nat → Option D
  | k :: ks, d :: ds, x => if k = x then some d else findN ks ds x
  | _, _, _ => none
def putN : List Nat → List D → Nat → D → List Nat × List D
  | k :: ks, d :: ds, x, v => if k = x then (k :: ks, v :: ds) else (k :: (putN ks ds x v).1, d :: (putN ks ds x v).2)
  | _, _, x, v => ([x], [v])
def putKs {κ : Type} [DecidableEq κ] : List κ → List D → κ → D → List κ × List D
  | k :: ks, d :: ds, x, v => if k = x then (k :: ks, v :: ds) else (k :: (putKs ks ds x v).1, d :: (putKs ks ds x v).2)
  | _, _, x, v => ([x], [v])
/-- an index -/
def atD (ds : List D) (i : Int) : Option D := L2.atI ds i
def intsD : List D → Option (List Int)
  | [] => some []
  | .int i :: ds => (intsD ds).map fun is => i :: is
  | _ :: _ => none
def blsD : List D → Option (List Bool)
  | [] => some []
  | .bl i :: ds => (blsD ds).map fun is => i :: is
  | _ :: _ => none
def strsD : List D → Option (List Str)
  | [] => some []
  | .str i :: ds => (strsD ds).map fun is => i :: is
  | _ :: _ => none
def szOk (n : Nat) : Bool := decide (n ≤ 1000000)

def mulOk (i j : Int) : Bool := (decide (-(2 ^ 64) < i) && decide (i < 2 ^ 64)) || (decide (-(2 ^ 64) < j) && decide (j < 2 ^ 64)) || decide (i.natAbs.log2 + j.natAbs.log2 < 1000000)
def divOk (j : Int) : Bool := (decide (j ≠ 0) && decide (j.natAbs < 1073741824)) || (decide (0 < j) && decide (j.natAbs.log2 < 9000))
def binD (op : Operator) (a b : D) : Option Rv := match op, a, b with
  | .Add, .int i, .int j => some (.val (.int (i + j)))
  | .Add, .str x, .str y => if szOk x.length && szOk y.length then some (.val (.str (x ++ y))) else none
  | .Add, .lst xs, .lst ys => if szOk (xs.length + ys.length) then some (.fr (.lst (xs ++ ys))) else none
  | .Add, .tup xs, .tup ys => if szOk (xs.length + ys.length) then some (.val (.tup (xs ++ ys))) else none
  | .Sub, .int i, .int j => some (.val (.int (i - j)))
  | .Mult, .int i, .int j => if mulOk i j then some (.val (.int (i * j))) else none
  | .Mult, .lst xs, .int k => if szOk (xs.length * k.toNat) && decide (-(2 ^ 62) ≤ k) && decide (k < 2 ^ 62) then some (.fr (.lst (List.replicate k.toNat xs).flatten)) else none
  | .FloorDiv, .int i, .int j => if divOk j then some (.val (.int (i.fdiv j))) else none
  | .Mod, .int i, .int j => if j ≠ 0 then some (.val (.int (i.fmod j))) else none
  | .Pow, .int i, .int j => if 0 ≤ j ∧ j ≤ 1000000 ∧ i.natAbs < 2 ^ 64 then some (.val (.int (i ^ j.toNat))) else none
  | _, _, _ => none
/-- what a dict of the written part, a dict, a list, a tuple, a text holds -/
def inD (T : IT) (x y : D) : Option Bool := match y with
  | .str z => match x with
    | .str u => some (!(Builtin.Str.occurrences z u 0 z.length 1).isEmpty)
    | _ => none
  | .lst ds => (toPy x).bind fun u => (toPys ds).bind fun us => if SeqAt.shaped u = true ∧ SeqAt.shaped (.list us) = true then some (us.any fun z => PyData.eqv z u) else none
  | .tup ds => (toPy x).bind fun u => (toPys ds).bind fun us => if SeqAt.shaped u = true ∧ SeqAt.shaped (.tuple us) = true then some (us.any fun z => PyData.eqv z u) else none
  | .kt ds => (toPy x).bind fun u => (toPys ds).bind fun us => if SeqAt.shaped u = true ∧ SeqAt.shaped (.tuple us) = true then some (us.any fun z => PyData.eqv z u) else none
  | .dK ks ds => (keyD x).map fun k => (findK ks ds k).isSome
  | .dT ks ds => match x with
    | .tup xs => (keysD xs).map fun k => (findK ks ds k).isSome
    | _ => none
  | .kd n => match x with
    | .str u => if (T.kds n).isEmpty then none else some ((T.kds n).lookup u).isSome
    | _ => none
  | _ => none
def isNonD : D → Bool
  | .non => true
  | _ => false
def cmpD (T : IT) (op : CmpOp) (a b : D) : Option Bool := match op with
  | .Eq => eqD a b
  | .NotEq => (eqD a b).map (!·)
  | .Lt => match a, b with
    | .int i, .int j => some (decide (i < j))
    | .str i, .str j => some (decide (i.cps.toList < j.cps.toList))
    | .tup xs, .tup ys => (intsD xs).bind fun is => (intsD ys).map fun js => HT.lexLt is js
    | _, _ => none
  | .LtE => match a, b with
    | .int i, .int j => some (decide (i ≤ j))
    | _, _ => none
  | .Gt => match a, b with
    | .int i, .int j => some (decide (j < i))
    | _, _ => none
  | .GtE => match a, b with
    | .int i, .int j => some (decide (j ≤ i))
    | _, _ => none
  | .Is => match b with
    | .non => some (isNonD a)
    | _ => none
  | .IsNot => match b with
    | .non => some (!isNonD a)
    | _ => none
  | .In => inD T a b
  | .NotIn => (inD T a b).map (!·)
def truthD : D → Option Bool
  | .non => some false
  | .bl b => some b
  | .int i => some (i != 0)
  | .str x => if szOk x.length then some ((x.length : Int) != 0) else none
  | .tup ds => some (!ds.isEmpty)
  | .kt ds => some (!ds.isEmpty)
  | .kl ds => some (!ds.isEmpty)
  | .lst ds => some (!ds.isEmpty)
  | .dK ks _ => some (!ks.isEmpty)
  | _ => none
def lenD : D → Option Nat
  | .str x => if szOk x.length then some x.length else none
  | .tup ds => some ds.length
  | .kt ds => some ds.length
  | .kl ds => some ds.length
  | .lst ds => some ds.length
  | _ => none
def idxD (T : IT) (a b : D) : Option D := match a, b with
  | .lst ds, .int i => L2.atI ds i
  | .tup ds, .int i => L2.atI ds i
  | .kt ds, .int i => L2.atI ds i
  | .kl ds, .int i => L2.atI ds i
  | .str z, .int i => if szOk z.length then (L2.atI z.cps.toList i).map fun c => .str ⟨#[c]⟩ else none
  | .dK ks ds, k => (keyD k).bind fun k => findK ks ds k
  | .dT ks ds, .tup xs => (keysD xs).bind fun k => findK ks ds k
  | .kd n, .str u => if (T.kds n).isEmpty then none else (T.kds n).lookup u
  | _, _ => none
def slcD (a : D) (l h : Option Int) : Option Rv := match a with
  | .lst ds => some (.fr (.lst ((ds.drop (HT.sIx ds.length 0 l)).take (HT.sIx ds.length ds.length h - HT.sIx ds.length 0 l))))
  | .kl ds => some (.fr (.lst ((ds.drop (HT.sIx ds.length 0 l)).take (HT.sIx ds.length ds.length h - HT.sIx ds.length 0 l))))
  | .tup ds => some (.val (.tup ((ds.drop (HT.sIx ds.length 0 l)).take (HT.sIx ds.length ds.length h - HT.sIx ds.length 0 l))))
  | .str z => if szOk z.length then some (.val (.str (L2.cutS z l h))) else none
  | _ => none
/-- ints in order -/
def insI (i : Int) : List Int → List Int
  | [] => [i]
  | y :: ys => if i < y then i :: y :: ys else y :: insI i ys
def sortI : List Int → List Int
  | [] => []
  | x :: xs => insI x (sortI xs)
def pairsD : List D → Option (List (Int × Int))
  | [] => some []
  | .tup [.int i, .int j] :: ds => (pairsD ds).map fun is => (i, j) :: is
  | _ :: _ => none
def ltP (a b : Int × Int) : Bool := decide (a.1 < b.1) || (decide (a.1 = b.1) && decide (a.2 < b.2))
def insP (x : Int × Int) : List (Int × Int) → List (Int × Int)
  | [] => [x]
  | y :: ys => if ltP x y then x :: y :: ys else y :: insP x ys
def sortP : List (Int × Int) → List (Int × Int)
  | [] => []
  | x :: xs => insP x (sortP xs)
def maxL (x : Int) (l : List Int) : Int := l.foldl (fun m y => if y > m then y else m) x
def minL (x : Int) (l : List Int) : Int := l.foldl (fun m y => if y < m then y else m) x
def biD (f : Bi) (as : List D) : Option Rv := match f, as with
  | .len, [a] => match lenD a with
    | some n => some (.val (.int (n : Nat)))
    | none => none
  | .abs, [.int i] => some (.val (.int (if i < 0 then -i else i)))
  | .int, [.int i] => some (.val (.int i))
  | .int, [.bl b] => some (.val (.int (if b then 1 else 0)))
  | .int, [.str x] => (PySem.intText? x).bind fun n => if x.length ≤ 640 then some (.val (.int n)) else none
  | .str, [.int i] => if i.natAbs.log2 < 1920 then some (.val (.str (toString i))) else none
  | .bool, [.int i] => some (.val (.bl (i != 0)))
  | .bool, [.bl b] => some (.val (.bl b))
  | .max, [.int i, .int j] => some (.val (.int (if j > i then j else i)))
  | .min, [.int i, .int j] => some (.val (.int (if j < i then j else i)))
  | .max, [.lst (.int i :: ds)] => (intsD ds).map fun is => .val (.int (maxL i is))
  | .min, [.lst (.int i :: ds)] => (intsD ds).map fun is => .val (.int (minL i is))
  | .sum, [.lst ds] => (intsD ds).map fun is => .val (.int is.sum)
  | .any, [.lst ds] => (blsD ds).map fun bs => .val (.bl (bs.any id))
  | .all, [.lst ds] => (blsD ds).map fun bs => .val (.bl (bs.all id))
  | .sorted, [.lst ds] => match intsD ds with
    | some is => some (.fr (.lst ((sortI is).map .int)))
    | none => (pairsD ds).map fun ps => .fr (.lst ((sortP ps).map fun p => .tup [.int p.1, .int p.2]))
  | .sorted, [.tup ds] => none
  | .list, [.lst ds] => some (.fr (.lst ds))
  | .list, [.tup ds] => some (.fr (.lst ds))
  | .list, [.dT ks ds] => some (.fr (.lst (ks.map fun k => .tup (k.map fun | .inl i => .int i | .inr x => .str x))))
  | .list, [.dK ks ds] => some (.fr (.lst (ks.map fun | .inl i => .int i | .inr x => .str x)))
  | .tuple, [.lst ds] => some (.val (.tup ds))
  | .tuple, [.tup ds] => some (.val (.tup ds))
  | .repr, [a] => (toPy a).bind fun p => if PyData.showable p = true ∧ PyData.hasDict p = false ∧ SeqAt.shaped p = true ∧ szOk (PyData.shown p).length = true then some (.val (.str (PyData.shown p))) else none
  | .divmod, [.int i, .int j] => if 0 < j ∧ j < 1073741824 then some (.val (.tup [.int (i / j), .int (i % j)])) else none
  | _, _ => none
def smD (m : Sm) (x : Str) (a : D) : Option Rv := match m, a with
  | .split, .str y => if szOk x.length && !(y.length == 0) then some (.fr (.lst ((Txt.split x y).map .str))) else none
  | .join, .lst ds => (strsD ds).bind fun ss => if szOk ((ss.map (·.length)).sum + ss.length * x.length) then some (.val (.str (Txt.join x ss))) else none
  | .index, .str y => match Builtin.Str.occurrences x y 0 x.length 1 with
    | i :: _ => some (.val (.int (i : Nat)))
    | [] => none
  | _, _ => none

/-! ### evaluation -/
def slotD (env : Env) (i : Nat) : Option D := match env[i]? with
  | some (some (.val d)) => some d
  | _ => none
/-- an own list, an own dict is looked at; an instance in the making is not -/
def lookO : Own → Option D
  | .lst ds => some (.lst ds)
  | .dK ks ds => some (.dK ks ds)
  | .dT ks ds => some (.dT ks ds)
  | .ins _ _ _ => none
def slotB (T : IT) (env : Env) (i : Nat) : Option D := match env[i]? with
  | some (some (.val d)) => some d
  | some (some (.own o)) => lookO o
  | _ => none
def lcGo (step : D → Sto → RS (Option D)) : List D → Sto → List D → RS (List D)
  | [], s, acc => .ok acc s
  | d :: ds, s, acc => match step d s with
    | .ok (some y) s' => lcGo step ds s' (acc ++ [y])
    | .ok none s' => lcGo step ds s' acc
    | _ => .no
def lcGo2 (step : D → Sto → RS (List D)) : List D → Sto → List D → RS (List D)
  | [], s, acc => .ok acc s
  | d :: ds, s, acc => match step d s with
    | .ok ys s' => lcGo2 step ds s' (acc ++ ys)
    | _ => .no
def dcGo (step : D → Sto → RS (D × D)) : List D → Sto → List D → List D → RS (List D × List D)
  | [], s, ks, vs => .ok (ks, vs) s
  | d :: ds, s, ks, vs => match step d s with
    | .ok (k, v) s' => dcGo step ds s' (ks ++ [k]) (vs ++ [v])
    | _ => .no
def setL : List Nat → List D → Env → Option Env
  | [], [], e => some e
  | i :: is, d :: ds, e => setL is ds (e.set i (some (.val d)))
  | _, _, _ => none
def setT (t : List Nat) (tp : Bool) (d : D) (env : Env) : Option Env := match tp with
  | true => match d with
    | .tup ds => setL t ds env
    | _ => none
  | false => match t with
    | [i] => some (env.set i (some (.val d)))
    | _ => none
def wipeE (env : Env) : List Nat → Env
  | [] => env
  | v :: vs => (wipeE env vs).set v none
/-- none of them holds something of its own -/
def noOwn (env : Env) (vs : List Nat) : Bool := vs.all fun v => match env[v]? with
  | some (some (.own _)) => false
  | _ => true
def lcStep (ft : Env → Sto → RS Bool) (ge : Env → Sto → RS D) (t : List Nat) (tp : Bool) (e0 : Env) : D → Sto → RS (Option D) := fun d s => match setT t tp d e0 with
  | some e' => (ft e' s).bind fun b s => if b then (ge e' s).bind fun y s => .ok (some y) s else .ok none s
  | none => .no
def rangeD (lo : Int) (n : Nat) : List D := (List.range n).map fun i => .int (lo + (i : Nat))
def iotaD : Nat → List D → List D
  | _, [] => []
  | n, d :: ds => .tup [.int (n : Nat), d] :: iotaD (n + 1) ds
def b62 (i : Int) : Bool := decide (-(2 ^ 62) ≤ i) && decide (i < 2 ^ 62)
def rangeOf (as : List D) : Option (List D) := match as with
  | [.int hi] => if b62 hi then some (rangeD 0 hi.toNat) else none
  | [.int lo, .int hi] => if b62 lo && b62 hi then some (rangeD lo (hi - lo).toNat) else none
  | _ => none
def itemsD : D → Option (List D)
  | .tup ds => some ds
  | .kt ds => some ds
  | .kl ds => some ds
  | .lst ds => some ds
  | .str z => if szOk z.length then some (z.cps.toList.map fun c => .str ⟨#[c]⟩) else none
  | _ => none
/-- the class of an instance -/
def clsD (s : Sto) : D → Option Nat
  | .obj c _ => some c
  | .ref n => match s[n]? with
    | some (.ins c _ _) => some c
    | _ => none
  | _ => none
/-- a special method -/
def methD (T : IT) (s : Sto) (d : D) (m : Nat) : Option Nat := (clsD s d).bind fun c => T.meth c m
def truthV (T : IT) (cl : CallT) (d : D) (s : Sto) : RS Bool := match clsD s d with
  | none => RS.ofO (truthD d) s
  | some c => match T.meth c T.sBool with
    | some k => (cl k [d] [] s).bind fun r s => match r with
      | .bl b => .ok b s
      | _ => .no
    | none => match T.meth c T.sLen with
      | some k => (cl k [d] [] s).bind fun r s => match r with
        | .int i => .ok (i != 0) s
        | _ => .no
      | none => .no
/-- what may be handed to a special method -/
def argD : D → Bool
  | .lst _ => false
  | .dK _ _ => false
  | .dT _ _ => false
  | _ => true
def cmpV (T : IT) (cl : CallT) (op : CmpOp) (a b : D) (s : Sto) : RS D := match op with
  | .Eq => match clsD s a with
    | some c => match T.meth c T.sEq with
      | some k => (if argD b then cl k [a, b] [] s else .no).bind fun r s => match r with
        | .bl b => .ok (.bl b) s
        | _ => .no
      | none => .no
    | none => RS.ofO ((cmpD T .Eq a b).map .bl) s
  | .NotEq => match clsD s a with
    | some c => match T.meth c T.sEq with
      | some k => (if argD b then cl k [a, b] [] s else .no).bind fun r s => match r with
        | .bl b => .ok (.bl (!b)) s
        | _ => .no
      | none => .no
    | none => RS.ofO ((cmpD T .NotEq a b).map .bl) s
  | .In => match clsD s b with
    | some c => match T.meth c T.sIn with
      | some k => (if argD a then cl k [b, a] [] s else .no).bind fun r s => match r with
        | .bl b => .ok (.bl b) s
        | _ => .no
      | none => .no
    | none => RS.ofO ((cmpD T .In a b).map .bl) s
  | .NotIn => match clsD s b with
    | some c => match T.meth c T.sIn with
      | some k => (if argD a then cl k [b, a] [] s else .no).bind fun r s => match r with
        | .bl b => .ok (.bl (!b)) s
        | _ => .no
      | none => .no
    | none => RS.ofO ((cmpD T .NotIn a b).map .bl) s
  | op => RS.ofO ((cmpD T op a b).map .bl) s
def binV (T : IT) (cl : CallT) (op : Operator) (a b : D) (s : Sto) : RS Rv := match clsD s a with
  | none => RS.ofO (binD op a b) s
  | some c => match (match op with
      | .BitAnd => T.meth c T.sAnd
      | .BitOr => T.meth c T.sOr
      | .Sub => T.meth c T.sSub
      | _ => none) with
    | some k => (if argD b then cl k [a, b] [] s else .no).bind fun r s => .ok (.val r) s
    | none => .no
def attrV (T : IT) (cl : CallT) (d : D) (f : Nat) (s : Sto) : RS D := match d with
  | .obj c ds => match T.prop c f with
    | some k => okO (cl k [d] [] s)
    | none => RS.ofO ((T.cls c).bind fun ci => findN ci.flds ds f) s
  | .ref n => match s[n]? with
    | some (.ins c ns ds) => match T.prop c f with
      | some k => okO (cl k [d] [] s)
      | none => RS.ofO (findN ns ds f) s
    | _ => .no
  | _ => .no
def idxV (T : IT) (cl : CallT) (a b : D) (s : Sto) : RS D := match a with
  | .ref n => match s[n]? with
    | some (.lst ds) => RS.ofO (idxD T (.lst ds) b) s
    | some (.ins c ns ds) => match T.meth c T.sGet with
      | some k => cl k [a, b] [] s
      | none => .no
    | _ => .no
  | _ => RS.ofO (idxD T a b) s
/-- an own instance's field -/
def ownFld (env : Env) (i f : Nat) : Option D := match env[i]? with
  | some (some (.own (.ins _ ns ds))) => findN ns ds f
  | _ => none
def isClass (T : IT) (s : Sto) (t : Nat) (d : D) : Option Bool := match d with
  | .obj c _ => if (T.cls t).isSome then some (decide (c = t)) else none
  | .ref n => match s[n]? with
    | some (.ins c _ _) => if (T.cls t).isSome && (T.cls c).isSome then some (decide (c = t)) else none
    | some _ => if (T.cls t).isSome then some false else none
    | none => none
  | .kd _ => none
  | .g _ => none
  | .ty _ => none
  | .kl _ => none
  | _ => if (T.cls t).isSome then some false else none
def isTyD (t : String) (d : D) : Option Bool := match d with
  | .int _ => if t = "int" then some true else if t = "bool" ∨ t = "str" ∨ t = "tuple" then some false else none
  | .bl _ => if t = "int" ∨ t = "bool" then some true else if t = "str" ∨ t = "tuple" then some false else none
  | .str _ => if t = "str" then some true else if t = "bool" ∨ t = "int" ∨ t = "tuple" then some false else none
  | .kt _ => if t = "tuple" then some true else if t = "bool" ∨ t = "int" ∨ t = "str" then some false else none
  | .tup _ => if t = "tuple" then some true else if t = "bool" ∨ t = "int" ∨ t = "str" then some false else none
  | .non => if t = "bool" ∨ t = "int" ∨ t = "str" ∨ t = "tuple" then some false else none
  | .lst _ => if t = "bool" ∨ t = "int" ∨ t = "str" ∨ t = "tuple" then some false else none
  | .dK _ _ => if t = "bool" ∨ t = "int" ∨ t = "str" ∨ t = "tuple" then some false else none
  | .dT _ _ => if t = "bool" ∨ t = "int" ∨ t = "str" ∨ t = "tuple" then some false else none
  | .obj _ _ => if t = "bool" ∨ t = "int" ∨ t = "str" ∨ t = "tuple" then some false else none
  | _ => none
def dispD (ks vs : List D) : Option Rv := match ks, vs with
  | [], [] => some (.fr (.dT [] []))
  | [.tup xs], [v] => (keysD xs).map fun k => .fr (.dT [k] [v])
  | _, _ => (keysD ks).bind fun kk => if kk.Nodup ∧ kk.length ≤ 15 ∧ ks.length = vs.length then some (.fr (.dK kk vs)) else none
def fmtD : D → Option Str
  | .str x => if szOk x.length then some x else none
  | .int i => if i.natAbs.log2 < 1920 then some (toString i) else none
  | _ => none

/-- of one expression: its value, its truth, its items -/
structure Ev where
  v : RS Rv
  t : RS Bool
  i : RS (List D)
  /-- its items, while nothing is stored -/
  j : RS (List D)
/-- a value that may be kept -/
def asD (T : IT) (r : RS Rv) : RS D := r.bind fun r s => RS.ofO (frz T r) s
/-- a value that is looked at -/
def asB (T : IT) (a : Ex) (e : Env) (s : Sto) (r : RS Rv) : RS D := match a with
  | .loc i => RS.ofO (slotB T e i) s
  | _ => r.bind fun r s => RS.ofO (frz T r) s
def ownOf (e : Env) (a : Ex) (f : Nat) : Option D := match a with
  | .loc i => ownFld e i f
  | _ => none
/-- .. with its truth and its items as its value tells -/
def evW (T : IT) (cl : CallT) (a : Ex) (e : Env) (s : Sto) (r : RS Rv) : Ev where
  v := r
  t := (asB T a e s r).bind fun x s => truthV T cl x s
  i := (asD T r).bind fun x s => RS.ofO (itemsD x) s
  j := (asB T a e s r).bind fun x s => RS.ofO (itemsD x) s
def plainBi : Bi → Bool
  | .range => false
  | .enum => false
  | .dict => false
  | _ => true
def neu : BoolOp → Bool
  | .And => true
  | .Or => false
section
variable (T : IT) (cl : CallT)
mutual
def evX : Ex → Env → Sto → Ev
  | .cst d, e, s => evW T cl (.cst d) e s (.ok (.val d) s)
  | .loc i, e, s => evW T cl (.loc i) e s (RS.ofO ((slotD e i).map .val) s)
  | .glb x, e, s => evW T cl (.glb x) e s (RS.ofO ((T.glob x).map .val) s)
  | .bin op a b, e, s => evW T cl (.bin op a b) e s ((asB T a e s (evX a e s).v).bind fun x s => (asB T b e s (evX b e s).v).bind fun y s => binV T cl op x y s)
  | .neg a, e, s => evW T cl (.neg a) e s ((asB T a e s (evX a e s).v).bind fun x s => match x with
    | .int i => .ok (.val (.int (-i))) s
    | _ => .no)
  | .not a, e, s => { evW T cl (.not a) e s ((asB T a e s (evX a e s).v).bind fun x s => match x with
    | .bl b => .ok (.val (.bl (!b))) s
    | _ => .no) with t := (evX a e s).t.bind fun b s => .ok (!b) s }
  | .bo op es, e, s => { evW T cl (.bo op es) e s ((evBo op es e s).bind fun x s => .ok (.val x) s) with t := evTs op es e s }
  | .cmp op a b, e, s => evW T cl (.cmp op a b) e s ((asB T a e s (evX a e s).v).bind fun x s => (asB T b e s (evX b e s).v).bind fun y s => (cmpV T cl op x y s).bind fun z s => .ok (.val z) s)
  | .cmp2 op op' a b c, e, s => { evW T cl (.cmp2 op op' a b c) e s ((asB T a e s (evX a e s).v).bind fun x s => (asB T b e s (evX b e s).v).bind fun y s => match cmpD T op x y with
    | some true => (asB T c e s (evX c e s).v).bind fun z s => RS.ofO ((cmpD T op' y z).map fun r => .val (.bl r)) s
    | some false => .ok (.val (.bl false)) s
    | none => .no) with t := .no }
  | .ife c a b, e, s => { evW T cl (.ife c a b) e s ((evX c e s).t.bind fun x s => if x then (evX a e s).v else (evX b e s).v) with t := .no }
  | .bi f as, e, s => { evW T cl (.bi f as) e s (if plainBi f then (evBs as e s).bind fun xs s => RS.ofO (biD f xs) s else .no) with
      i := (match f with
    | .range => (evBs as e s).bind fun xs s => RS.ofO (rangeOf xs) s
    | .enum => (evDs as e s).bind fun xs s => match xs with
      | [.lst ds] => .ok (iotaD 0 ds) s
      | _ => .no
    | _ => (asD T (if plainBi f then (evBs as e s).bind fun xs s => RS.ofO (biD f xs) s else .no)).bind fun x s => RS.ofO (itemsD x) s)
      j := (match f with
    | .range => (evBs as e s).bind fun xs s => RS.ofO (rangeOf xs) s
    | .enum => (evDs as e s).bind fun xs s => match xs with
      | [.lst ds] => .ok (iotaD 0 ds) s
      | _ => .no
    | _ => (asD T (if plainBi f then (evBs as e s).bind fun xs s => RS.ofO (biD f xs) s else .no)).bind fun x s => RS.ofO (itemsD x) s) }
  | .lrg a, e, s => evW T cl (.lrg a) e s ((asB T a e s (evX a e s).v).bind fun x s => match x with
    | .int n => if b62 n && szOk n.toNat then .ok (.fr (.lst (rangeD 0 n.toNat))) s else .no
    | _ => .no)
  | .isi a t, e, s => evW T cl (.isi a t) e s ((asB T a e s (evX a e s).v).bind fun x s => RS.ofO ((isClass T s t x).map fun b => .val (.bl b)) s)
  | .isT a t, e, s => evW T cl (.isT a t) e s ((asB T a e s (evX a e s).v).bind fun x s => RS.ofO ((isTyD t x).map fun b => .val (.bl b)) s)
  | .sm m o a, e, s => evW T cl (.sm m o a) e s ((asB T o e s (evX o e s).v).bind fun x s => match x with
    | .str u => (asB T a e s (evX a e s).v).bind fun y s => RS.ofO (smD m u y) s
    | _ => .no)
  | .call f as kn ks, e, s => evW T cl (.call f as kn ks) e s ((evDs as e s).bind fun xs s => (evDs ks e s).bind fun ys s => if kn.length = ys.length then (cl f xs (kn.zip ys) s).bind fun r s => .ok (.val r) s else .no)
  | .meth o m as kn ks, e, s => evW T cl (.meth o m as kn ks) e s ((asD T (evX o e s).v).bind fun x s => match methD T s x m with
    | some k => (evDs as e s).bind fun xs s => (evDs ks e s).bind fun ys s => if kn.length = ys.length then (cl k (x :: xs) (kn.zip ys) s).bind fun r s => .ok (.val r) s else .no
    | none => .no)
  | .attr o f, e, s => evW T cl (.attr o f) e s (match ownOf e o f with
    | some d => .ok (.val d) s
    | none => (asD T (evX o e s).v).bind fun x s => (attrV T cl x f s).bind fun r s => .ok (.val r) s)
  | .idx a b, e, s => evW T cl (.idx a b) e s ((asB T a e s (evX a e s).v).bind fun x s => (asB T b e s (evX b e s).v).bind fun y s => (idxV T cl x y s).bind fun r s => .ok (.val r) s)
  | .slc a lo hi, e, s => evW T cl (.slc a lo hi) e s ((asB T a e s (evX a e s).v).bind fun x s => (evO lo e s).bind fun l s => (evO hi e s).bind fun h s => RS.ofO (slcD x l h) s)
  | .rev a, e, s => evW T cl (.rev a) e s ((asB T a e s (evX a e s).v).bind fun x s => match x with
    | .lst ds => .ok (.fr (.lst ds.reverse)) s
    | _ => .no)
  | .tup es, e, s => evW T cl (.tup es) e s ((evDs es e s).bind fun xs s => if szOk xs.length then .ok (.val (.tup xs)) s else .no)
  | .lst es, e, s => evW T cl (.lst es) e s ((evDs es e s).bind fun xs s => if szOk xs.length then .ok (.fr (.lst xs)) s else .no)
  | .dct ks vs, e, s => evW T cl (.dct ks vs) e s ((evDs ks e s).bind fun xs s => (evDs vs e s).bind fun ys s => RS.ofO (dispD xs ys) s)
  | .lc el t tp it ifs vs, e, s => evW T cl (.lc el t tp it ifs vs) e s ((evX it e s).j.bind fun items s => if szOk items.length && noOwn e vs then
      (lcGo (lcStep (fun e s => evTs .And ifs e s) (fun e s => asD T (evX el e s).v) t tp (wipeE e vs)) items s []).bind fun acc s => .ok (.fr (.lst acc)) s
    else .no)
  | .lc2 el t tp it t2 tp2 it2 ifs vs, e, s => evW T cl (.lc2 el t tp it t2 tp2 it2 ifs vs) e s ((evX it e s).i.bind fun items s =>
      (lcGo2 (fun d s => match setT t tp d (wipeE e vs) with
        | some e1 => (evX it2 e1 s).i.bind fun items2 s => if szOk items2.length then lcGo (fun d s => match setT t2 tp2 d e1 with
          | some e' => (evTs .And ifs e' s).bind fun b s => if b then (asD T (evX el e' s).v).bind fun y s => .ok (some y) s else .ok none s
          | none => .no) items2 s [] else .no
        | none => .no) items s []).bind fun acc s => if szOk acc.length then .ok (.fr (.lst acc)) s else .no)
  | .dc k v t it vs, e, s => evW T cl (.dc k v t it vs) e s ((evX it e s).i.bind fun items s => if szOk items.length then
      (dcGo (fun d s => match setT [t] false d (wipeE e vs) with
        | some e' => (asD T (evX k e' s).v).bind fun x s => (asD T (evX v e' s).v).bind fun y s => .ok (x, y) s
        | none => .no) items s [] []).bind fun kv s => match keysD kv.1 with
        | some kk => if kk.Nodup then .ok (.fr (.dK kk kv.2)) s else .no
        | none => .no
    else .no)
  | .fst es, e, s => evW T cl (.fst es) e s ((evDs es e s).bind fun xs s => match strsD xs with
    | some ss => if szOk (ss.map (·.length)).sum then .ok (.val (.str (ss.foldl (· ++ ·) Str.empty))) s else .no
    | none => .no)
  | .fmt a, e, s => evW T cl (.fmt a) e s ((asB T a e s (evX a e s).v).bind fun x s => RS.ofO ((fmtD x).map fun z => .val (.str z)) s)
def evDs : Exs → Env → Sto → RS (List D)
  | .nil, _, s => .ok [] s
  | .cons a as, e, s => (asD T (evX a e s).v).bind fun x s => (evDs as e s).bind fun xs s => .ok (x :: xs) s
def evBs : Exs → Env → Sto → RS (List D)
  | .nil, _, s => .ok [] s
  | .cons a as, e, s => (asB T a e s (evX a e s).v).bind fun x s => (evBs as e s).bind fun xs s => .ok (x :: xs) s
/-- and, or as values -/
def evBo : BoolOp → Exs → Env → Sto → RS D
  | _, .nil, _, _ => .no
  | _, .cons a .nil, e, s => asD T (evX a e s).v
  | op, .cons a (.cons b bs), e, s => (asD T (evX a e s).v).bind fun x s => match x with
    | .bl c => if c = neu op then evBo op (.cons b bs) e s else .ok (.bl c) s
    | _ => .no
/-- and, or as tests -/
def evTs : BoolOp → Exs → Env → Sto → RS Bool
  | op, .nil, _, s => .ok (neu op) s
  | op, .cons a as, e, s => (evX a e s).t.bind fun b s => if b = neu op then evTs op as e s else .ok b s
def evO : Exo → Env → Sto → RS (Option Int)
  | .no, _, s => .ok none s
  | .so a, e, s => (asB T a e s (evX a e s).v).bind fun x s => match x with
    | .int i => .ok (some i) s
    | _ => .no
end
end
end Wk
namespace Wk
open PySem
/-! ### the tie to the program's own text -/
structure Ck where
  nm : Nat → Str
  cl : Nat → Bool
  kn : Nat → Bool
  N : List Str
  sc : Scope
def visB (sc : Scope) (x : Str) : Bool := match sc.names.lookup x with
  | some .local => true
  | some .cell => true
  | some .free => true
  | _ => false
def gloB (sc : Scope) (x : Str) : Bool := decide (sc.names.lookup x = some .globalImplicit) && (x != ("__debug__" : Str)) && (x != ("__name__" : Str))
def biN : Bi → Str
  | .len => "len" | .abs => "abs" | .int => "int" | .str => "str" | .bool => "bool" | .max => "max" | .min => "min" | .sum => "sum" | .any => "any" | .all => "all"
  | .sorted => "sorted" | .list => "list" | .tuple => "tuple" | .divmod => "divmod" | .range => "range" | .enum => "enumerate" | .repr => "repr" | .dict => "dict"
def smN : Sm → Str
  | .split => "split" | .join => "join" | .index => "index"
def dcst : D → Const → Bool
  | .non, .none => true
  | .bl a, .bool b => decide (a = b)
  | .int a, .int b => decide (a = b)
  | .str a, .str b => decide (a = b)
  | _, _ => false
def ownOk (N : List Str) (own : List Nat) : List (Str × Nat) := own.filterMap fun i => (N[i]?).map fun x => (x, i)
def tgNm (C : Ck) (sc : Scope) (i : Nat) : Expr → Bool
  | .Name x _ => decide (C.N[i]? = some x) && (match sc.names.lookup x with | some .local => true | some .cell => true | _ => false)
  | _ => false
def tgNms (C : Ck) (sc : Scope) : List Nat → List Expr → Bool
  | [], [] => true
  | i :: is, e :: es => tgNm C sc i e && tgNms C sc is es
  | _, _ => false
/-- a loop's target -/
def tgOk (C : Ck) (sc : Scope) (t : List Nat) (tp : Bool) (e : Expr) : Bool := match tp with
  | true => match e with
    | .Tuple es _ _ => tgNms C sc t es
    | _ => false
  | false => match t with
    | [i] => tgNm C sc i e
    | _ => false
def noSup : Expr → Bool
  | .Call (.Name id _) _ _ _ => id != ("super" : Str)
  | _ => true
def noSet : Expr → Bool
  | .Set .. => false
  | _ => true
/-- enumerate wants a pair of names -/
def itOk : Ex → Expr → Bool
  | .bi .enum _, .Tuple _ _ _ => true
  | .bi .enum _, _ => false
  | _, _ => true
def exsLen : Exs → Nat
  | .nil => 0
  | .cons _ as => exsLen as + 1
mutual
def chkE : Ex → Ck → Expr → Bool
  | .cst d, _, .Constant c _ _ => dcst d c
  | .loc i, C, .Name x _ => decide (C.N[i]? = some x) && visB C.sc x && (x != ("__debug__" : Str)) && (x != ("__classdict__" : Str))
  | .glb g, C, .Name x _ => decide (C.nm g = x) && gloB C.sc x
  | .bin op a b, C, .BinOp x o y _ => decide (op = o) && chkE a C x && chkE b C y
  | .neg a, C, .UnaryOp .USub x _ => chkE a C x
  | .not a, C, .UnaryOp .Not x _ => chkE a C x
  | .bo op es, C, .BoolOp o xs _ => decide (op = o) && chkEs es C xs && !xs.isEmpty
  | .cmp op a b, C, .Compare x [o] [y] _ => decide (op = o) && chkE a C x && chkE b C y && noSet y
  | .cmp2 op op' a b c, C, .Compare x [o, o'] [y, z] _ => decide (op = o) && decide (op' = o') && chkE a C x && chkE b C y && chkE c C z && noSet z
  | .ife c a b, C, .IfExp t x y _ => chkE c C t && chkE a C x && chkE b C y
  | .bi f as, C, .Call (.Name x _) xs [] _ => decide (biN f = x) && gloB C.sc x && chkEs as C xs && !xs.isEmpty && (match f with | .range => decide (xs.length ≤ 2) | .enum => decide (xs.length = 1) | .dict => false | _ => true)
  | .lrg a, C, .Call (.Name f _) [.Call (.Name g _) [x] [] _] [] _ => decide (f = ("list" : Str)) && gloB C.sc f && decide (g = ("range" : Str)) && gloB C.sc g && chkE a C x
  | .isi a t, C, .Call (.Name f _) [x, .Name c _] [] _ => decide (f = ("isinstance" : Str)) && gloB C.sc f && chkE a C x && decide (C.nm t = c) && gloB C.sc c && C.cl t
  | .isT a t, C, .Call (.Name f _) [x, .Name c _] [] _ => decide (f = ("isinstance" : Str)) && gloB C.sc f && chkE a C x && decide (Str.ofString t = c) && gloB C.sc c && decide (t = "int" ∨ t = "bool" ∨ t = "str" ∨ t = "tuple")
  | .sm m o a, C, .Call (.Attribute y n ap) [x] [] p => decide (smN m = n) && chkE o C y && chkE a C x && decide (ap.endLine = p.line) && noSup y
  | .call f as kn ks, C, .Call (.Name x _) xs kws _ => C.kn f && decide (C.nm f = x) && gloB C.sc x && chkEs as C xs && chkK kn ks C kws
  | .meth o m as kn ks, C, .Call (.Attribute y n ap) xs kws p => decide (C.nm m = n) && chkE o C y && chkEs as C xs && chkK kn ks C kws && noSup y && decide (ap.endLine = p.line) && decide (xs.length + kws.length < 28)
  | .attr o f, C, .Attribute y n _ => decide (C.nm f = n) && chkE o C y && noSup y
  | .idx a b, C, .Subscript x y _ => chkE a C x && chkE b C y
  | .slc a lo hi, C, .Subscript x (.Slice l h none _) _ => chkE a C x && chkO lo C l && chkO hi C h
  | .rev a, C, .Subscript x (.Slice none none (some (.UnaryOp .USub (.Constant (.int i) _ _) _)) _) _ => decide (i = 1) && chkE a C x
  | .tup es, C, .Tuple xs _ _ => chkEs es C xs
  | .lst es, C, .List xs _ => chkEs es C xs
  | .lc el t tp it ifs vs, C, .ListComp x [⟨tg, iter, tests, 0⟩] scope _ => chkE it C iter && itOk it tg && L2.blkC C.N C.sc scope (ownOk C.N vs) && decide ((ownOk C.N vs).map (·.2) = vs) && tgOk C scope t tp tg && t.all (fun i => vs.contains i) &&
      chkEs ifs { C with sc := L2.relS scope C.sc } tests && decide (tests.length ≤ 1) && chkE el { C with sc := L2.relS scope C.sc } x
  | _, _, _ => false
def chkEs : Exs → Ck → List Expr → Bool
  | .nil, _, [] => true
  | .cons a as, C, x :: xs => chkE a C x && chkEs as C xs
  | _, _, _ => false
def chkK : List Nat → Exs → Ck → List Keyword → Bool
  | [], .nil, _, [] => true
  | k :: kn, .cons a as, C, ⟨some n, x, _⟩ :: xs => decide (C.nm k = n) && chkE a C x && chkK kn as C xs
  | _, _, _, _ => false
def chkO : Exo → Ck → Option Expr → Bool
  | .no, _, none => true
  | .so a, C, some x => chkE a C x
  | _, _, _ => false
end
end Wk

set_option Elab.async false
set_option linter.all false
set_option maxRecDepth 100000
/-! The interpreter: statements, calls. -/
namespace Wk
open PySem
/-! ### while -/
def wlGo (c : Env → Sto → RS Bool) (b : Env → Sto → O) : Nat → Env → Sto → O
  | 0, _, _ => .no
  | n + 1, e, s => (c e s).toO fun t s => if t then (match b e s with
    | .nx e s => wlGo c b n e s
    | .ct e s => wlGo c b n e s
    | .bk e s => .nx e s
    | .rt d s => .rt d s
    | .ex c a s => .ex c a s
    | .no => .no) else .nx e s
open Classical in
/-- the loop's answer, where it has one -/
noncomputable def wl (c : Env → Sto → RS Bool) (b : Env → Sto → O) (e : Env) (s : Sto) : O := if h : ∃ n, wlGo c b n e s ≠ .no then wlGo c b (Classical.choose h) e s else .no
theorem wlGo_mono {c : Env → Sto → RS Bool} {b : Env → Sto → O} : ∀ {n m : Nat} {e : Env} {s : Sto}, wlGo c b n e s ≠ .no → n ≤ m → wlGo c b m e s = wlGo c b n e s
  | 0, _, _, _, h, _ => absurd rfl h
  | n + 1, 0, _, _, _, hm => by omega
  | n + 1, m + 1, e, s, h, hm => by
    unfold wlGo at h ⊢
    cases hc : c e s with
    | ok t s1 =>
      rw [hc] at h
      simp only [RS.toO_ok] at h ⊢
      cases t with
      | false => rfl
      | true =>
        rw [if_pos rfl] at h ⊢
        rw [if_pos rfl]
        cases hb : b e s1 with
        | nx e2 s2 => rw [hb] at h; exact wlGo_mono h (by omega)
        | ct e2 s2 => rw [hb] at h; exact wlGo_mono h (by omega)
        | bk e2 s2 => rfl
        | rt d s2 => rfl
        | ex c a s2 => rfl
        | no => rfl
    | ex c a s1 => rfl
    | no => rfl
theorem wl_eq {c : Env → Sto → RS Bool} {b : Env → Sto → O} {n : Nat} {e : Env} {s : Sto} (h : wlGo c b n e s ≠ .no) : wl c b e s = wlGo c b n e s := by
  have hx : ∃ n, wlGo c b n e s ≠ .no := ⟨n, h⟩
  unfold wl
  rw [dif_pos hx]
  rcases Nat.le_total n (Classical.choose hx) with q | q
  · exact wlGo_mono h q
  · exact (wlGo_mono (Classical.choose_spec hx) q).symm
theorem wl_go {c : Env → Sto → RS Bool} {b : Env → Sto → O} {e : Env} {s : Sto} {r : O} (h : wl c b e s = r) (hr : r ≠ .no) : ∃ n, wlGo c b n e s = r := by
  unfold wl at h
  split at h
  · exact ⟨_, h⟩
  · exact absurd h.symm hr
/-- one turn -/
theorem wl_unfold (c : Env → Sto → RS Bool) (b : Env → Sto → O) (e : Env) (s : Sto) : wl c b e s = (c e s).toO fun t s => if t then (match b e s with
    | .nx e s => wl c b e s
    | .ct e s => wl c b e s
    | .bk e s => .nx e s
    | .rt d s => .rt d s
    | .ex c a s => .ex c a s
    | .no => .no) else .nx e s := by
  have up : ∀ n, wlGo c b (n + 1) e s = (c e s).toO fun t s => if t then (match b e s with
    | .nx e s => wlGo c b n e s
    | .ct e s => wlGo c b n e s
    | .bk e s => .nx e s
    | .rt d s => .rt d s
    | .ex c a s => .ex c a s
    | .no => .no) else .nx e s := fun n => rfl
  cases hc : c e s with
  | ex c' a s1 => have := up 0; rw [hc] at this; rw [wl_eq (n := 1) (by rw [this]; exact nofun), this]; rfl
  | no =>
    have h0 : ∀ n, wlGo c b n e s = .no := fun n => by cases n with | zero => rfl | succ n => rw [up, hc]; rfl
    have : wl c b e s = .no := by
      unfold wl
      rw [dif_neg]
      rintro ⟨n, hn⟩
      exact hn (h0 n)
    rw [this]
    rfl
  | ok t s1 =>
    simp only [RS.toO_ok]
    cases t with
    | false => have := up 0; rw [hc] at this; rw [wl_eq (n := 1) (by rw [this]; exact nofun), this]; rfl
    | true =>
      rw [if_pos rfl]
      have up' : ∀ n, wlGo c b (n + 1) e s = (match b e s1 with
        | .nx e s => wlGo c b n e s
        | .ct e s => wlGo c b n e s
        | .bk e s => .nx e s
        | .rt d s => .rt d s
        | .ex c a s => .ex c a s
        | .no => .no) := fun n => by rw [up, hc]; rfl
      have step : ∀ e2 s2, (∀ n, wlGo c b (n + 1) e s = wlGo c b n e2 s2) → wl c b e s = wl c b e2 s2 := fun e2 s2 hs => by
        by_cases hx : ∃ n, wlGo c b n e2 s2 ≠ .no
        · obtain ⟨n, hn⟩ := hx
          rw [wl_eq hn, wl_eq (n := n + 1) (by rw [hs]; exact hn), hs]
        · have h1 : wl c b e2 s2 = .no := by unfold wl; rw [dif_neg hx]
          have h2 : wl c b e s = .no := by
            unfold wl
            rw [dif_neg]
            rintro ⟨n, hn⟩
            cases n with
            | zero => exact hn rfl
            | succ n => rw [hs] at hn; exact hx ⟨n, hn⟩
          rw [h1, h2]
      cases hb : b e s1 with
      | nx e2 s2 => exact step e2 s2 fun n => by rw [up', hb]
      | ct e2 s2 => exact step e2 s2 fun n => by rw [up', hb]
      | bk e2 s2 => have := up' 0; rw [hb] at this; rw [wl_eq (n := 1) (by rw [this]; exact nofun), this]
      | rt d s2 => have := up' 0; rw [hb] at this; rw [wl_eq (n := 1) (by rw [this]; exact nofun), this]
      | ex c a s2 => have := up' 0; rw [hb] at this; rw [wl_eq (n := 1) (by rw [this]; exact nofun), this]
      | no =>
        have : wl c b e s = .no := by
          unfold wl
          rw [dif_neg]
          rintro ⟨n, hn⟩
          cases n with
          | zero => exact hn rfl
          | succ n => rw [up', hb] at hn; exact hn rfl
        rw [this]
/-! ### for -/
def frGo (step : D → Env → Sto → O) : List D → Env → Sto → O
  | [], e, s => .nx e s
  | d :: ds, e, s => match step d e s with
    | .nx e s => frGo step ds e s
    | .ct e s => frGo step ds e s
    | .bk e s => .nx e s
    | .rt d s => .rt d s
    | .ex c a s => .ex c a s
    | .no => .no
def frStep (t : List Nat) (tp : Bool) (b : Env → Sto → O) : D → Env → Sto → O := fun d e s => match setT t tp d e with
  | some e' => b e' s
  | none => .no
/-- what the names hold is kept as it is -/
def mvE (T : IT) : List Nat → Env → Option Env
  | [], e => some e
  | i :: is, e => match e[i]? with
    | some (some (.own o)) => (treeO T o).bind fun d => mvE T is (e.set i (some (.val d)))
    | _ => mvE T is e
def tgsLen : Tgs → Nat
  | .nil => 0
  | .cons _ ts => tgsLen ts + 1
def augD (op : Operator) (x y : D) : Option D := match op, x, y with
  | .Add, .int x, .int y => some (.int (x + y))
  | .Sub, .int x, .int y => some (.int (x - y))
  | _, _, _ => none
def fldOk (T : IT) (c f : Nat) : Bool := match T.cls c with
  | some ci => ci.flds.contains f
  | none => false
section
variable (T : IT) (cl : CallT)
mutual
def tgA : Tg → D → Env → Sto → RS Env
  | .nm i, d, e, s => .ok (e.set i (some (.val d))) s
  | .at (.loc i) f, d, e, s => match e[i]? with
    | some (some (.own (.ins c ns ds))) => if fldOk T c f && decide (ns.length < 100) then .ok (e.set i (some (.own (.ins c (putN ns ds f d).1 (putN ns ds f d).2)))) s else .no
    | _ => .no
  | .at _ _, _, _, _ => .no
  | .sb (.loc k) i, d, e, s => match e[k]? with
    | some (some (.own (.lst _))) => (asB T i e s (evX T cl i e s).v).bind fun j s => match j, e[k]? with
      | .int j, some (some (.own (.lst ds))) => match L2.ixN ds.length j with
        | some p => .ok (e.set k (some (.own (.lst (ds.set p d))))) s
        | none => .no
      | _, _ => .no
    | some (some (.val (.ref n))) => (asB T i e s (evX T cl i e s).v).bind fun j s => match j, s[n]? with
      | .int j, some (.lst ds) => match L2.ixN ds.length j with
        | some p => .ok e (s.set n (.lst (ds.set p d)))
        | none => .no
      | _, _ => .no
    | _ => .no
  | .sb _ _, _, _, _ => .no
  | .tp ts, d, e, s => match d with
    | .tup ds => if ds.length = tgsLen ts then tgAs ts ds e s else .no
    | _ => .no
def tgAs : Tgs → List D → Env → Sto → RS Env
  | .nil, [], e, s => .ok e s
  | .cons t ts, d :: ds, e, s => (tgA t d e s).bind fun e s => tgAs ts ds e s
  | _, _, _, _ => .no
end
mutual
noncomputable def exS : Sx → Env → Sto → O
  | .asg own t a, e, s => (evX T cl a e s).v.toO fun rv s => match own, t, rv with
    | true, .nm i, .fr o => .nx (e.set i (some (.own o))) s
    | _, t, rv => match frz T rv with
      | some d => (tgA T cl t d e s).toO fun e s => .nx e s
      | none => .no
  | .par ts es, e, s => (evDs T cl es e s).toO fun ds s => match setL ts ds e with
    | some e' => .nx e' s
    | none => .no
  | .aug i op a, e, s => match slotD e i with
    | some x => (asB T a e s (evX T cl a e s).v).toO fun y s => match augD op x y with
      | some d => .nx (e.set i (some (.val d))) s
      | none => .no
    | none => .no
  | .exp a, e, s => (evX T cl a e s).v.toO fun _ s => .nx e s
  | .app i a, e, s => match e[i]? with
    | some (some (.own (.lst ds))) => (asD T (evX T cl a e s).v).toO fun d s => if szOk ds.length then .nx (e.set i (some (.own (.lst (ds ++ [d]))))) s else .no
    | _ => .no
  | .ret a, e, s => (evX T cl a e s).v.toO fun rv s => .rt rv s
  | .retn, e, s => .rt (.val .non) s
  | .ife c a b, e, s => (evX T cl c e s).t.toO fun t s => if t then exB a e s else exB b e s
  | .fr t tp it b, e, s => (evX T cl it e s).i.toO fun ds s => frGo (frStep t tp fun e s => exB b e s) ds e s
  | .whl c b, e, s => wl (fun e s => (evX T cl c e s).t) (fun e s => exB b e s) e s
  | .rse c as, e, s => .no
  | .pass, e, s => .nx e s
  | .brk, e, s => .bk e s
  | .cont, e, s => .ct e s
  | .mv is x, e, s => match mvE T is e with
    | some e' => exS x e' s
    | none => .no
noncomputable def exB : Blk → Env → Sto → O
  | .nil, e, s => .nx e s
  | .cons x b, e, s => (exS x e s).seq fun e s => exB b e s
end
end
/-! ### calls -/
/-- the parameters behind the given ones: by keyword, else by default (counted from the right) -/
def argOf {κ α : Type} [BEq κ] (kws : List (κ × α)) (dfl : List α) (m : Nat) (n : κ) : Option α := match kws.lookup n with
  | some v => some v
  | none => if m ≤ dfl.length then dfl[dfl.length - m]? else none
def bindGo {κ α : Type} [BEq κ] (kws : List (κ × α)) (dfl : List α) : List κ → Option (List α)
  | [] => some []
  | n :: ns => (argOf kws dfl (ns.length + 1) n).bind fun v => (bindGo kws dfl ns).map (v :: ·)
/-- what the parameters are bound to: pos names, their defaults, what is given -/
def bindP (pos : List Nat) (dfl : List D) (ds : List D) (kws : List (Nat × D)) : Option (List D) :=
  if decide (ds.length ≤ pos.length) && kws.all (fun k => (pos.drop ds.length).contains k.1) && decide (kws.map (·.1)).Nodup then (bindGo kws dfl (pos.drop ds.length)).map (ds ++ ·) else none
def startE (n : Nat) (ds : List D) : Env := ds.map (fun d => some (.val d)) ++ List.replicate (n - ds.length) none
/-- a body's answer -/
def retO (T : IT) (fi : FnI) : O → RS D
  | .nx _ s => .ok .non s
  | .rt rv s => match fi.cell, rv with
    | true, .fr o => .ok (.ref s.length) (s ++ [o])
    | _, rv => RS.ofO (frz T rv) s
  | .ex c a s => .ex c a s
  | _ => .no
noncomputable def callF (T : IT) (cl : CallT) (fi : FnI) (ds : List D) (kws : List (Nat × D)) (s : Sto) : RS D := match bindP fi.pos fi.dfl ds kws with
  | some vs => retO T fi (exB T cl fi.body (startE fi.nloc vs) s)
  | none => .no
/-- what __init__ leaves -/
def makeK (T : IT) : O → RS D
  | .nx e s => match (e[0]? : Option (Option Sv)) with
    | some (some (Sv.own (Own.ins c' ns ds))) => RS.ofO (treeO T (.ins c' ns ds)) s
    | _ => .no
  | .ex c a s => .ex c a s
  | _ => .no
/-- a new instance: __init__'s first name is the instance -/
noncomputable def makeC (T : IT) (cl : CallT) (c : Nat) (fi : FnI) (ds : List D) (kws : List (Nat × D)) (s : Sto) : RS D := match bindP (fi.pos.drop 1) fi.dfl ds kws with
  | some vs => makeK T (exB T cl fi.body (some (.own (.ins c [] [])) :: startE (fi.nloc - 1) vs) s)
  | none => .no
noncomputable def callI (T : IT) : Nat → CallT
  | 0 => fun _ _ _ _ => .no
  | n + 1 => fun f ds kws s => match T.cls f with
    | some ci => match T.fn ci.init with
      | some fi => makeC T (callI T n) f fi ds kws s
      | none => .no
    | none => match T.fn f with
      | some fi => callF T (callI T n) fi ds kws s
      | none => .no
end Wk

set_option Elab.async false
set_option linter.all false
set_option maxRecDepth 100000
set_option maxHeartbeats 2100000
/-! How trees stand in the abstract heap. -/
namespace Wk
open PySem L2

/-- a tuple, a list of the written part -/
def KT (K : PySem.W.Frag) (a : Addr) (xs : List V) : Prop := SqT K (fun _ => none) a xs
def KL (K : PySem.W.Frag) (a : Addr) (xs : List V) : Prop := SqL K (fun _ => none) a xs
theorem KT.any {K : PySem.W.Frag} {a : Addr} {xs : List V} (h : KT K a xs) (H : Hp) : SqT K H a xs := by
  rcases h with h | h
  · rcases h with h | ⟨_, h⟩ <;> cases h
  · exact .inr h
theorem KL.any {K : PySem.W.Frag} {a : Addr} {xs : List V} (h : KL K a xs) (H : Hp) : SqL K H a xs := by
  rcases h with h | h
  · rcases h with h | ⟨_, h⟩ <;> cases h
  · exact .inr h

/-- what is static -/
structure GS where
  K : PySem.W.Frag
  T : IT
  cA : Nat → Addr
  fA : Nat → Addr
  kA : Nat → Addr
  /-- a global name's function or class -/
  gA : Nat → Addr

/-- where one looks: the store's addresses, what may change, the heap -/
structure Wd where
  ρ : List Addr
  Mu : Addr → Prop
  H : Hp

mutual
/-- the value v is the tree d; what it is made of cannot change -/
def Rep (G : GS) (W : Wd) : D → V → Prop
  | .non, v => v = .non
  | .bl b, v => v = .bl b
  | .int i, v => v = .int i
  | .str x, v => v = .str x
  | .tup ds, v => ∃ a vs, v = .ref a ∧ Reps G W ds vs ∧ ¬ W.Mu a ∧ W.H a = some (.tup vs)
  | .kt ds, v => ∃ a vs, v = .ref a ∧ Reps G W ds vs ∧ KT G.K a vs
  | .kl ds, v => ∃ a vs, v = .ref a ∧ Reps G W ds vs ∧ KL G.K a vs
  | .lst ds, v => ∃ a vs, v = .ref a ∧ Reps G W ds vs ∧ ¬ W.Mu a ∧ Rd W.H a (.lst vs)
  | .dK ks ds, v => ∃ a vs, v = .ref a ∧ ¬ W.Mu a ∧ W.H a = some (.dK (ks.zip vs)) ∧ ks.length = vs.length ∧ ks.Nodup ∧ Reps G W ds vs
  | .dT ks ds, v => ∃ a vs, v = .ref a ∧ ¬ W.Mu a ∧ W.H a = some (.dT (ks.zip vs)) ∧ ks.length = vs.length ∧ Reps G W ds vs
  | .obj c ds, v => ∃ a dx vs ci, v = .ref a ∧ ¬ W.Mu a ∧ G.T.cls c = some ci ∧ ci.cell = false ∧ W.H a = some (.ins (G.cA c) dx ((ci.flds.map G.T.names).zip vs)) ∧ ci.flds.length = vs.length ∧ Reps G W ds vs
  | .ref n, v => ∃ a, v = .ref a ∧ W.ρ[n]? = some a
  | .kd x, v => v = .ref (G.kA x)
  | .g x, v => v = .ref (G.gA x)
  | .ty n, v => v = .ty n
def Reps (G : GS) (W : Wd) : List D → List V → Prop
  | [], vs => vs = []
  | d :: ds, vs => ∃ v r, vs = v :: r ∧ Rep G W d v ∧ Reps G W ds r
end

/-- the object at a is o -/
def Shows (G : GS) (W : Wd) (a : Addr) : Own → Prop
  | .lst ds => ∃ vs, W.H a = some (.lst vs) ∧ Reps G W ds vs
  | .dK ks ds => ∃ vs, W.H a = some (.dK (ks.zip vs)) ∧ ks.length = vs.length ∧ ks.Nodup ∧ Reps G W ds vs
  | .dT ks ds => ∃ vs, W.H a = some (.dT (ks.zip vs)) ∧ ks.length = vs.length ∧ Reps G W ds vs
  | .ins c ns ds => ∃ dx vs, W.H a = some (.ins (G.cA c) dx ((ns.map G.T.names).zip vs)) ∧ ns.length = vs.length ∧ Reps G W ds vs ∧ ∃ ci, G.T.cls c = some ci ∧ ∀ f ∈ ns, f ∈ ci.flds

/-- from one moment to a later one: the store has grown, all but the store's objects stand, what may change then could change or was not there -/
structure Le (W W' : Wd) : Prop where
  pre : W.ρ <+: W'.ρ
  keep : ∀ a o, W.H a = some o → a ∉ W.ρ → W'.H a = some o
  mu : ∀ a, W'.Mu a → W.Mu a ∨ W.H a = none
  new : ∀ a, a ∈ W'.ρ → a ∈ W.ρ ∨ W.H a = none
  cm : ∀ a, a ∈ W.ρ → W.Mu a

section
variable {G : GS} {W W' W'' : Wd}
theorem Le.get (l : Le W W') {n : Nat} {a : Addr} (h : W.ρ[n]? = some a) : W'.ρ[n]? = some a := by
  obtain ⟨t, e⟩ := l.pre
  have hn : n < W.ρ.length := (List.getElem?_eq_some_iff.mp h).1
  rw [← e, List.getElem?_append_left hn]
  exact h
theorem Le.nmu (l : Le W W') {a : Addr} {o : HO} (h : ¬ W.Mu a) (e : W.H a = some o) : ¬ W'.Mu a := fun z => (l.mu a z).elim h fun q => by rw [e] at q; cases q
theorem Le.ho (l : Le W W') {a : Addr} {o : HO} (h : ¬ W.Mu a) (e : W.H a = some o) : W'.H a = some o := l.keep a o e fun z => h (l.cm a z)
theorem Le.rd (l : Le W W') {a : Addr} {u : HO} (h : ¬ W.Mu a) (r : Rd W.H a u) : ¬ W'.Mu a ∧ Rd W'.H a u := by
  rcases r with e | ⟨o, e⟩
  · exact ⟨l.nmu h e, .inl (l.ho h e)⟩
  · exact ⟨l.nmu h e, .inr ⟨o, l.ho h e⟩⟩
theorem Le.refl (c : ∀ a, a ∈ W.ρ → W.Mu a) : Le W W := ⟨List.prefix_refl _, fun _ _ e _ => e, fun _ h => .inl h, fun _ h => .inl h, c⟩
theorem Le.trans (a : Le W W') (b : Le W' W'') : Le W W'' := by
  refine ⟨a.pre.trans b.pre, fun x o e h => ?_, fun x h => ?_, fun x h => ?_, a.cm⟩
  · have e1 := a.keep x o e h
    refine b.keep x o e1 fun z => ?_
    rcases a.new x z with q | q
    · exact h q
    · rw [e] at q; cases q
  · rcases b.mu x h with q | q
    · exact a.mu x q
    · by_cases hx : x ∈ W.ρ
      · exact .inl (a.cm x hx)
      · cases e : W.H x with
        | none => exact .inr rfl
        | some o => rw [a.keep x o e hx] at q; cases q
  · rcases b.new x h with q | q
    · exact a.new x q
    · by_cases hx : x ∈ W.ρ
      · exact .inl hx
      · cases e : W.H x with
        | none => exact .inr rfl
        | some o => rw [a.keep x o e hx] at q; cases q
/-- .. where names' own things may have changed, too -/
structure Ls (W W' : Wd) : Prop where
  pre : W.ρ <+: W'.ρ
  keep : ∀ a o, W.H a = some o → ¬ W.Mu a → W'.H a = some o
  mu : ∀ a, W'.Mu a → W.Mu a ∨ W.H a = none
theorem Le.ls (l : Le W W') : Ls W W' := ⟨l.pre, fun a o e h => l.keep a o e fun z => h (l.cm a z), l.mu⟩
theorem Ls.get (l : Ls W W') {n : Nat} {a : Addr} (h : W.ρ[n]? = some a) : W'.ρ[n]? = some a := by
  obtain ⟨t, e⟩ := l.pre
  have hn : n < W.ρ.length := (List.getElem?_eq_some_iff.mp h).1
  rw [← e, List.getElem?_append_left hn]
  exact h
theorem Ls.nmu (l : Ls W W') {a : Addr} {o : HO} (h : ¬ W.Mu a) (e : W.H a = some o) : ¬ W'.Mu a := fun z => (l.mu a z).elim h fun q => by rw [e] at q; cases q
theorem Ls.ho (l : Ls W W') {a : Addr} {o : HO} (h : ¬ W.Mu a) (e : W.H a = some o) : W'.H a = some o := l.keep a o e h
theorem Ls.rd (l : Ls W W') {a : Addr} {u : HO} (h : ¬ W.Mu a) (r : Rd W.H a u) : ¬ W'.Mu a ∧ Rd W'.H a u := by
  rcases r with e | ⟨o, e⟩
  · exact ⟨l.nmu h e, .inl (l.ho h e)⟩
  · exact ⟨l.nmu h e, .inr ⟨o, l.ho h e⟩⟩
theorem Ls.refl : Ls W W := ⟨List.prefix_refl _, fun _ _ e _ => e, fun _ h => .inl h⟩
theorem Ls.trans (a : Ls W W') (b : Ls W' W'') : Ls W W'' := by
  refine ⟨a.pre.trans b.pre, fun x o e h => b.keep x o (a.keep x o e h) (a.nmu h e), fun x h => ?_⟩
  rcases b.mu x h with q | q
  · exact a.mu x q
  · by_cases hx : W.Mu x
    · exact .inl hx
    · cases e : W.H x with
      | none => exact .inr rfl
      | some o => rw [a.keep x o e hx] at q; cases q
mutual
theorem Rep.ls (l : Ls W W') : ∀ {d : D} {v : V}, Rep G W d v → Rep G W' d v
  | .non, _, h => by simpa only [Rep] using h
  | .bl _, _, h => by simpa only [Rep] using h
  | .int _, _, h => by simpa only [Rep] using h
  | .str _, _, h => by simpa only [Rep] using h
  | .kd _, _, h => by simpa only [Rep] using h
  | .g _, _, h => by simpa only [Rep] using h
  | .ty _, _, h => by simpa only [Rep] using h
  | .tup ds, _, h => by
    simp only [Rep] at h ⊢
    obtain ⟨a, vs, e, r, q⟩ := h
    exact ⟨a, vs, e, Reps.ls l r, l.nmu q.1 q.2, l.ho q.1 q.2⟩
  | .kl ds, _, h => by
    simp only [Rep] at h ⊢
    obtain ⟨a, vs, e, r, q⟩ := h
    exact ⟨a, vs, e, Reps.ls l r, q⟩
  | .kt ds, _, h => by
    simp only [Rep] at h ⊢
    obtain ⟨a, vs, e, r, q⟩ := h
    exact ⟨a, vs, e, Reps.ls l r, q⟩
  | .lst ds, _, h => by
    simp only [Rep] at h ⊢
    obtain ⟨a, vs, e, r, q⟩ := h
    exact ⟨a, vs, e, Reps.ls l r, l.rd q.1 q.2⟩
  | .dK ks ds, _, h => by
    simp only [Rep] at h ⊢
    obtain ⟨a, vs, e, m, q, z, r⟩ := h
    exact ⟨a, vs, e, l.nmu m q, l.ho m q, z, r.1, Reps.ls l r.2⟩
  | .dT ks ds, _, h => by
    simp only [Rep] at h ⊢
    obtain ⟨a, vs, e, m, q, z, r⟩ := h
    exact ⟨a, vs, e, l.nmu m q, l.ho m q, z, Reps.ls l r⟩
  | .obj c ds, _, h => by
    simp only [Rep] at h ⊢
    obtain ⟨a, dx, vs, ci, e, m, hc, hz, q, z, r⟩ := h
    exact ⟨a, dx, vs, ci, e, l.nmu m q, hc, hz, l.ho m q, z, Reps.ls l r⟩
  | .ref n, _, h => by
    simp only [Rep] at h ⊢
    obtain ⟨a, e, q⟩ := h
    exact ⟨a, e, l.get q⟩
theorem Reps.ls (l : Ls W W') : ∀ {ds : List D} {vs : List V}, Reps G W ds vs → Reps G W' ds vs
  | [], _, h => by simpa only [Reps] using h
  | d :: ds, _, h => by
    simp only [Reps] at h ⊢
    obtain ⟨v, r, e, h1, h2⟩ := h
    exact ⟨v, r, e, Rep.ls l h1, Reps.ls l h2⟩
end
theorem Rep.le (l : Le W W') {d : D} {v : V} (h : Rep G W d v) : Rep G W' d v := Rep.ls l.ls h
theorem Reps.le (l : Le W W') {ds : List D} {vs : List V} (h : Reps G W ds vs) : Reps G W' ds vs := Reps.ls l.ls h
theorem Shows.le (l : Le W W') {a : Addr} {o : Own} (ha : a ∉ W.ρ) (h : Shows G W a o) : Shows G W' a o := by
  cases o with
  | lst ds =>
    obtain ⟨vs, e, r⟩ := h
    exact ⟨vs, l.keep _ _ e ha, r.le l⟩
  | dK ks ds =>
    obtain ⟨vs, e, z, nd, r⟩ := h
    exact ⟨vs, l.keep _ _ e ha, z, nd, r.le l⟩
  | dT ks ds =>
    obtain ⟨vs, e, z, r⟩ := h
    exact ⟨vs, l.keep _ _ e ha, z, r.le l⟩
  | ins c ns ds =>
    obtain ⟨dx, vs, e, z, r, t⟩ := h
    exact ⟨dx, vs, l.keep _ _ e ha, z, r.le l, t⟩
theorem Shows.some {a : Addr} {o : Own} (h : Shows G W a o) : ∃ x, W.H a = Option.some x := by
  cases o with
  | lst ds => obtain ⟨vs, e, r⟩ := h; exact ⟨_, e⟩
  | dK ks ds => obtain ⟨vs, e, r⟩ := h; exact ⟨_, e⟩
  | dT ks ds => obtain ⟨vs, e, r⟩ := h; exact ⟨_, e⟩
  | ins c ns ds => obtain ⟨dx, vs, e, r, _⟩ := h; exact ⟨_, e⟩
theorem Reps.length : ∀ {ds : List D} {vs : List V}, Reps G W ds vs → ds.length = vs.length
  | [], _, h => by simp only [Reps] at h; subst h; rfl
  | d :: ds, _, h => by
    simp only [Reps] at h
    obtain ⟨v, r, e, h1, h2⟩ := h
    rw [e, List.length_cons, List.length_cons, h2.length]
theorem Reps.cons {d : D} {v : V} {ds : List D} {vs : List V} (h : Rep G W d v) (hs : Reps G W ds vs) : Reps G W (d :: ds) (v :: vs) := by
  simp only [Reps]
  exact ⟨v, vs, rfl, h, hs⟩
theorem Reps.nil : Reps G W [] [] := by simp only [Reps]
theorem Reps.append : ∀ {ds es : List D} {vs ws : List V}, Reps G W ds vs → Reps G W es ws → Reps G W (ds ++ es) (vs ++ ws)
  | [], _, _, _, h, k => by simp only [Reps] at h; subst h; exact k
  | d :: ds, _, _, _, h, k => by
    simp only [Reps] at h
    obtain ⟨v, r, e, h1, h2⟩ := h
    subst e
    exact .cons h1 (h2.append k)
theorem Reps.at : ∀ {ds : List D} {vs : List V} {i : Nat} {d : D}, Reps G W ds vs → ds[i]? = some d → ∃ v, vs[i]? = some v ∧ Rep G W d v
  | [], _, _, _, _, e => by simp at e
  | d :: ds, _, i, _, h, e => by
    simp only [Reps] at h
    obtain ⟨v, r, ev, h1, h2⟩ := h
    subst ev
    cases i with
    | zero => cases e; exact ⟨v, rfl, h1⟩
    | succ i => exact h2.at (i := i) e
theorem Reps.at' : ∀ {ds : List D} {vs : List V} {i : Nat} {v : V}, Reps G W ds vs → vs[i]? = some v → ∃ d, ds[i]? = some d ∧ Rep G W d v
  | [], _, i, _, h, e => by simp only [Reps] at h; subst h; simp at e
  | d :: ds, _, i, _, h, e => by
    simp only [Reps] at h
    obtain ⟨v, r, ev, h1, h2⟩ := h
    subst ev
    cases i with
    | zero => cases e; exact ⟨d, rfl, h1⟩
    | succ i => exact h2.at' (i := i) e
theorem Reps.take : ∀ {ds : List D} {vs : List V} (n : Nat), Reps G W ds vs → Reps G W (ds.take n) (vs.take n)
  | _, _, 0, _ => .nil
  | [], _, n + 1, h => by simp only [Reps] at h; subst h; exact .nil
  | d :: ds, _, n + 1, h => by
    simp only [Reps] at h
    obtain ⟨v, r, e, h1, h2⟩ := h
    subst e
    exact .cons h1 (h2.take n)
theorem Reps.drop : ∀ {ds : List D} {vs : List V} (n : Nat), Reps G W ds vs → Reps G W (ds.drop n) (vs.drop n)
  | _, _, 0, h => h
  | [], _, n + 1, h => by simp only [Reps] at h; subst h; exact .nil
  | d :: ds, _, n + 1, h => by
    simp only [Reps] at h
    obtain ⟨v, r, e, h1, h2⟩ := h
    subst e
    exact h2.drop n
theorem Reps.set : ∀ {ds : List D} {vs : List V} {d : D} {v : V} (n : Nat), Reps G W ds vs → Rep G W d v → Reps G W (ds.set n d) (vs.set n v)
  | [], _, _, _, n, h, _ => by simp only [Reps] at h; subst h; exact .nil
  | d :: ds, _, _, _, n, h, k => by
    simp only [Reps] at h
    obtain ⟨v, r, e, h1, h2⟩ := h
    subst e
    cases n with
    | zero => exact .cons k h2
    | succ n => exact .cons h1 (h2.set n k)
theorem Reps.reverse : ∀ {ds : List D} {vs : List V}, Reps G W ds vs → Reps G W ds.reverse vs.reverse
  | [], _, h => by simp only [Reps] at h; subst h; exact .nil
  | d :: ds, _, h => by
    simp only [Reps] at h
    obtain ⟨v, r, e, h1, h2⟩ := h
    subst e
    rw [List.reverse_cons, List.reverse_cons]
    exact h2.reverse.append (.cons h1 .nil)
theorem Rep.int_inv {i : Int} {v : V} (h : Rep G W (.int i) v) : v = .int i := by simpa only [Rep] using h
theorem Rep.bl_inv {i : Bool} {v : V} (h : Rep G W (.bl i) v) : v = .bl i := by simpa only [Rep] using h
theorem Rep.str_inv {i : Str} {v : V} (h : Rep G W (.str i) v) : v = .str i := by simpa only [Rep] using h
theorem Rep.non_inv {v : V} (h : Rep G W .non v) : v = .non := by simpa only [Rep] using h
theorem Reps.ints : ∀ {ds : List D} {is : List Int} {vs : List V}, Reps G W ds vs → intsD ds = some is → vs = is.map V.int
  | [], is, _, h, e => by simp only [Reps] at h; subst h; simp only [intsD, Option.some.injEq] at e; subst e; rfl
  | d :: ds, is, _, h, e => by
    simp only [Reps] at h
    obtain ⟨v, r, ev, h1, h2⟩ := h
    subst ev
    cases d <;> simp only [intsD, Option.map_eq_some_iff, reduceCtorEq] at e
    obtain ⟨js, e1, e2⟩ := e
    subst e2
    rw [h1.int_inv, h2.ints e1]
    rfl
theorem Reps.bls : ∀ {ds : List D} {is : List Bool} {vs : List V}, Reps G W ds vs → blsD ds = some is → vs = is.map V.bl
  | [], is, _, h, e => by simp only [Reps] at h; subst h; simp only [blsD, Option.some.injEq] at e; subst e; rfl
  | d :: ds, is, _, h, e => by
    simp only [Reps] at h
    obtain ⟨v, r, ev, h1, h2⟩ := h
    subst ev
    cases d <;> simp only [blsD, Option.map_eq_some_iff, reduceCtorEq] at e
    obtain ⟨js, e1, e2⟩ := e
    subst e2
    rw [h1.bl_inv, h2.bls e1]
    rfl
theorem Reps.strs : ∀ {ds : List D} {is : List Str} {vs : List V}, Reps G W ds vs → strsD ds = some is → vs = is.map V.str
  | [], is, _, h, e => by simp only [Reps] at h; subst h; simp only [strsD, Option.some.injEq] at e; subst e; rfl
  | d :: ds, is, _, h, e => by
    simp only [Reps] at h
    obtain ⟨v, r, ev, h1, h2⟩ := h
    subst ev
    cases d <;> simp only [strsD, Option.map_eq_some_iff, reduceCtorEq] at e
    obtain ⟨js, e1, e2⟩ := e
    subst e2
    rw [h1.str_inv, h2.strs e1]
    rfl
theorem Reps.of_ints : ∀ (is : List Int), Reps G W (is.map D.int) (is.map V.int)
  | [] => .nil
  | i :: is => .cons (by simp only [Rep]) (Reps.of_ints is)
theorem Reps.of_strs : ∀ (is : List Str), Reps G W (is.map D.str) (is.map V.str)
  | [] => .nil
  | i :: is => .cons (by simp only [Rep]) (Reps.of_strs is)
theorem Rep.sqT {ds : List D} {v : V} (h : Rep G W (.tup ds) v) : ∃ a vs, v = .ref a ∧ SqT G.K W.H a vs ∧ Reps G W ds vs := by
  simp only [Rep] at h
  obtain ⟨a, vs, e, r, q⟩ := h
  exact ⟨a, vs, e, .inl (.inl q.2), r⟩
theorem Rep.sqKT {ds : List D} {v : V} (h : Rep G W (.kt ds) v) : ∃ a vs, v = .ref a ∧ SqT G.K W.H a vs ∧ Reps G W ds vs := by
  simp only [Rep] at h
  obtain ⟨a, vs, e, r, q⟩ := h
  exact ⟨a, vs, e, q.any _, r⟩
theorem Rep.sqKL {ds : List D} {v : V} (h : Rep G W (.kl ds) v) : ∃ a vs, v = .ref a ∧ SqL G.K W.H a vs ∧ Reps G W ds vs := by
  simp only [Rep] at h
  obtain ⟨a, vs, e, r, q⟩ := h
  exact ⟨a, vs, e, q.any _, r⟩
theorem Rep.sqL {ds : List D} {v : V} (h : Rep G W (.lst ds) v) : ∃ a vs, v = .ref a ∧ Rd W.H a (.lst vs) ∧ Reps G W ds vs := by
  simp only [Rep] at h
  obtain ⟨a, vs, e, r, q⟩ := h
  exact ⟨a, vs, e, q.2, r⟩
end

/-! ### what is looked at -/
def Look (G : GS) (W : Wd) : D → V → Prop
  | .lst ds, v => ∃ a vs, v = .ref a ∧ Reps G W ds vs ∧ a ∉ W.ρ ∧ Rd W.H a (.lst vs)
  | .dK ks ds, v => ∃ a vs, v = .ref a ∧ a ∉ W.ρ ∧ W.H a = some (.dK (ks.zip vs)) ∧ ks.length = vs.length ∧ ks.Nodup ∧ Reps G W ds vs
  | .dT ks ds, v => ∃ a vs, v = .ref a ∧ a ∉ W.ρ ∧ W.H a = some (.dT (ks.zip vs)) ∧ ks.length = vs.length ∧ Reps G W ds vs
  | d, v => Rep G W d v
inductive Looks (G : GS) (W : Wd) : List D → List V → Prop
  | nil : Looks G W [] []
  | cons {d : D} {v : V} {ds : List D} {vs : List V} : Look G W d v → Looks G W ds vs → Looks G W (d :: ds) (v :: vs)
section
variable {G : GS} {W W' : Wd}
theorem Rep.look (cm : ∀ a, a ∈ W.ρ → W.Mu a) {d : D} {v : V} (h : Rep G W d v) : Look G W d v := by
  cases d with
  | lst ds =>
    simp only [Rep] at h
    obtain ⟨a, vs, e, r, q⟩ := h
    exact ⟨a, vs, e, r, fun z => q.1 (cm _ z), q.2⟩
  | dK ks ds =>
    simp only [Rep] at h
    obtain ⟨a, vs, e, m, r⟩ := h
    exact ⟨a, vs, e, fun z => m (cm _ z), r⟩
  | dT ks ds =>
    simp only [Rep] at h
    obtain ⟨a, vs, e, m, r⟩ := h
    exact ⟨a, vs, e, fun z => m (cm _ z), r⟩
  | _ => exact h
theorem Look.le (l : Le W W') {d : D} {v : V} (h : Look G W d v) : Look G W' d v := by
  have nr : ∀ {a : Addr} {o : HO}, a ∉ W.ρ → W.H a = some o → a ∉ W'.ρ := fun {a o} h e z => (l.new a z).elim h fun q => by rw [e] at q; cases q
  cases d with
  | lst ds =>
    obtain ⟨a, vs, e, r, q⟩ := h
    refine ⟨a, vs, e, r.le l, ?_⟩
    obtain ⟨h1, h2⟩ := q
    rcases h2 with h2 | ⟨o, h2⟩
    · exact ⟨nr h1 h2, .inl (l.keep _ _ h2 h1)⟩
    · exact ⟨nr h1 h2, .inr ⟨o, l.keep _ _ h2 h1⟩⟩
  | dK ks ds =>
    obtain ⟨a, vs, e, m, q, z, nd, r⟩ := h
    exact ⟨a, vs, e, nr m q, l.keep _ _ q m, z, nd, r.le l⟩
  | dT ks ds =>
    obtain ⟨a, vs, e, m, q, z, r⟩ := h
    exact ⟨a, vs, e, nr m q, l.keep _ _ q m, z, r.le l⟩
  | _ => exact Rep.le l h
theorem Looks.le (l : Le W W') {ds : List D} {vs : List V} (h : Looks G W ds vs) : Looks G W' ds vs := by
  induction h with
  | nil => exact .nil
  | cons h _ ih => exact .cons (h.le l) ih
theorem Look.sqL {ds : List D} {v : V} (h : Look G W (.lst ds) v) : ∃ a vs, v = .ref a ∧ Rd W.H a (.lst vs) ∧ Reps G W ds vs := by
  obtain ⟨a, vs, e, r, q⟩ := h
  exact ⟨a, vs, e, q.2, r⟩
theorem Look.sqT {ds : List D} {v : V} (h : Look G W (.tup ds) v) : ∃ a vs, v = .ref a ∧ SqT G.K W.H a vs ∧ Reps G W ds vs := Rep.sqT h
theorem Look.sqKT {ds : List D} {v : V} (h : Look G W (.kt ds) v) : ∃ a vs, v = .ref a ∧ SqT G.K W.H a vs ∧ Reps G W ds vs := Rep.sqKT h
theorem Look.sqKL {ds : List D} {v : V} (h : Look G W (.kl ds) v) : ∃ a vs, v = .ref a ∧ SqL G.K W.H a vs ∧ Reps G W ds vs := Rep.sqKL h
theorem Look.int_inv {i : Int} {v : V} (h : Look G W (.int i) v) : v = .int i := Rep.int_inv (G := G) (W := W) h
theorem Look.bl_inv {i : Bool} {v : V} (h : Look G W (.bl i) v) : v = .bl i := Rep.bl_inv (G := G) (W := W) h
theorem Look.str_inv {i : Str} {v : V} (h : Look G W (.str i) v) : v = .str i := Rep.str_inv (G := G) (W := W) h
theorem Look.non_inv {v : V} (h : Look G W .non v) : v = .non := Rep.non_inv (G := G) (W := W) h
/-- an own thing, looked at -/
theorem Shows.look {a : Addr} {o : Own} {d : D} (h : Shows G W a o) (ha : a ∉ W.ρ) (e : lookO o = Option.some d) : Look G W d (.ref a) := by
  cases o with
  | lst ds =>
    cases e
    obtain ⟨vs, e, r⟩ := h
    exact ⟨a, vs, rfl, r, ha, .inl e⟩
  | dK ks ds =>
    cases e
    obtain ⟨vs, e, z, nd, r⟩ := h
    exact ⟨a, vs, rfl, ha, e, z, nd, r⟩
  | dT ks ds =>
    cases e
    obtain ⟨vs, e, z, r⟩ := h
    exact ⟨a, vs, rfl, ha, e, z, r⟩
  | ins c ns ds => cases e
theorem Shows.rep {a : Addr} {o : Own} {d : D} (h : Shows G W a o) (ha : ¬ W.Mu a) (e : treeO G.T o = Option.some d) : Rep G W d (.ref a) := by
  cases o with
  | lst ds =>
    cases e
    obtain ⟨vs, e, r⟩ := h
    simp only [Rep]
    exact ⟨a, vs, rfl, r, ha, .inl e⟩
  | dK ks ds =>
    cases e
    obtain ⟨vs, e, z, nd, r⟩ := h
    simp only [Rep]
    exact ⟨a, vs, rfl, ha, e, z, nd, r⟩
  | dT ks ds =>
    cases e
    obtain ⟨vs, e, z, r⟩ := h
    simp only [Rep]
    exact ⟨a, vs, rfl, ha, e, z, r⟩
  | ins c ns ds =>
    cases hc : G.T.cls c with
    | none => simp only [treeO, hc] at e; cases e
    | some ci =>
      simp only [treeO, hc] at e
      split at e
      · rename_i q
        obtain ⟨q1, q2, q3⟩ := q
        cases e
        obtain ⟨dx, vs, e, z, r, _⟩ := h
        simp only [Rep]
        exact ⟨a, dx, vs, ci, rfl, ha, hc, q3, by rw [q1]; exact e, by rw [q1]; exact z, r⟩
      · cases e
end

/-! ### a frame -/
structure Frm where
  G : GS
  He : Hp
  Xs : Addr → Prop
  Wx : L2.XK
  /-- the cells that were there -/
  R : Addr → Prop
  /-- the instance in the making -/
  I : Addr → Prop
structure SF (F : Frm) (M0 : Addr → Prop) (σ : L2.St) (e : Env) (s : Sto) (W : Wd) : Prop where
  mu : ∀ a, W.Mu a ↔ M0 a ∨ a ∈ W.ρ ∨ ∃ (i : Nat) (o : Own), e[i]? = some (some (.own o)) ∧ σ[i]? = some (some (.ref a))
  len : e.length = σ.length
  val : ∀ (i : Nat) (d : D), e[i]? = some (some (.val d)) → ∃ v, σ[i]? = some (some v) ∧ Rep F.G W d v
  own : ∀ (i : Nat) (o : Own), e[i]? = some (some (.own o)) → ∃ a, σ[i]? = some (some (.ref a)) ∧ Shows F.G W a o ∧ ¬ M0 a ∧ a ∉ W.ρ ∧ (F.He a = none ∨ F.Xs a)
  apart : ∀ (i j : Nat) (o o' : Own) (a : Addr), e[i]? = some (some (.own o)) → e[j]? = some (some (.own o')) → σ[i]? = some (some (.ref a)) → σ[j]? = some (some (.ref a)) → i = j
  stl : W.ρ.length = s.length
  sto : ∀ (n : Nat) (o : Own), s[n]? = some o → ∃ a, W.ρ[n]? = some a ∧ Shows F.G W a o ∧ ¬ M0 a
  nd : W.ρ.Nodup
  keep : ∀ a o, F.He a = some o → a ∉ W.ρ → ¬ F.Xs a → W.H a = some o
  m0 : ∀ a, M0 a → ∃ o, W.H a = some o ∧ ∀ vs, o ≠ .tup vs
  xs : ∀ a, F.Xs a → ∃ o, W.H a = some o
  fresh : ∀ a, a ∈ W.ρ → F.R a ∨ F.He a = none
  ins : ∀ (i c : Nat) (ns : List Nat) (ds : List D) (a : Addr), e[i]? = some (some (.own (.ins c ns ds))) → σ[i]? = some (some (.ref a)) → F.I a
/-- the exception: what it carries -/
def ExR (G : GS) (W : Wd) (c : Nat) : Option D → Option Addr → Prop
  | none, dd => dd = none
  | some d, dd => ∃ f q v, G.T.exc c = some f ∧ dd = some q ∧ W.H q = some (.xd [(G.T.names f, v)]) ∧ Rep G W d v
def Pk (F : Frm) (M0 : Addr → Prop) (σ : L2.St) (e : Env) (W : Wd) {α : Type} (r : RS α) (k : α → Sto → Wd → Prop) : Prop := match r with
  | .ok a s => ∀ W', Le W W' → k a s W'
  | .ex c a s => ∀ W' dd, Le W W' → SF F M0 σ e s W' → ExR F.G W' c a dd → F.Wx (.ref (F.G.cA c)) dd W'.H
  | .no => False
section
variable {F : Frm} {M0 : Addr → Prop} {σ : L2.St} {e : Env} {s : Sto} {W W' : Wd} {α β : Type}
theorem SF.cm (h : SF F M0 σ e s W) : ∀ a, a ∈ W.ρ → W.Mu a := fun a z => (h.mu a).mpr (.inr (.inl z))
theorem SF.refl (h : SF F M0 σ e s W) : Le W W := Le.refl h.cm
theorem Pk.okO {r : RS α} {k : α → Sto → Wd → Prop} (h : Pk F M0 σ e W (okO r) k) : ∃ a s', r = .ok a s' ∧ ∀ W', Le W W' → k a s' W' := by
  cases r with
  | ok a s' => exact ⟨a, s', rfl, h⟩
  | ex c a s' => exact h.elim
  | no => exact h.elim
theorem Pk.mono {r : RS α} {k : α → Sto → Wd → Prop} (h : Pk F M0 σ e W r k) (l : Le W W') : Pk F M0 σ e W' r k := by
  cases r with
  | ok a s => exact fun W2 l2 => h W2 (l.trans l2)
  | ex c a s => exact fun W2 dd l2 => h W2 dd (l.trans l2)
  | no => exact h
theorem Pk.thn {r : RS α} {f : α → Sto → RS β} {k : β → Sto → Wd → Prop} {k' : α → Sto → Wd → Prop} (h : Pk F M0 σ e W (r.bind f) k) (hk : ∀ a s W1, Le W W1 → Pk F M0 σ e W1 (f a s) k → k' a s W1) : Pk F M0 σ e W r k' := by
  cases r with
  | ok a s => exact fun W1 l => hk a s W1 l (Pk.mono h l)
  | ex c a s => exact h
  | no => exact h
theorem Pk.ok {a : α} {k : α → Sto → Wd → Prop} (h : Pk F M0 σ e W (.ok a s) k) (c : SF F M0 σ e s W) : k a s W := h W c.refl
theorem Pk.ofO {o : Option α} {k : α → Sto → Wd → Prop} (h : Pk F M0 σ e W (RS.ofO o s) k) : ∃ a, o = some a ∧ Pk F M0 σ e W (.ok a s) k := by
  cases o with
  | some a => exact ⟨a, rfl, h⟩
  | none => exact h.elim
/-- a value that has come -/
def RvOk (F : Frm) (M0 : Addr → Prop) (σ : L2.St) (e : Env) (s : Sto) (W : Wd) : Rv → V → Prop
  | .val d, v => SF F M0 σ e s W ∧ Rep F.G W d v
  | .fr o, v => ∃ p, v = .ref p ∧ SF F (fun a => M0 a ∨ a = p) σ e s W ∧ Shows F.G W p o ∧ ¬ M0 p ∧ F.He p = none ∧ ∀ c ns ds, o ≠ .ins c ns ds
abbrev Fv := Env → Sto → RS Rv
def tV (F : Frm) (f : Fv) : TE := fun σ H Q => ∃ M0 e s W, W.H = H ∧ SF F M0 σ e s W ∧ Pk F M0 σ e W (f e s) fun r s' W' => ∀ v, RvOk F M0 σ e s' W' r v → Q v W'.H
def tD (F : Frm) (f : Env → Sto → RS D) : TE := fun σ H Q => ∃ M0 e s W, W.H = H ∧ SF F M0 σ e s W ∧ Pk F M0 σ e W (f e s) fun d s' W' => ∀ v, SF F M0 σ e s' W' → Rep F.G W' d v → Q v W'.H
def tLk (F : Frm) (f : Env → Sto → RS D) : TE := fun σ H Q => ∃ M0 e s W, W.H = H ∧ SF F M0 σ e s W ∧ Pk F M0 σ e W (f e s) fun d s' W' => ∀ v, SF F M0 σ e s' W' → Look F.G W' d v → Q v W'.H
def tT (F : Frm) (f : Env → Sto → RS Bool) : TT := fun σ H Q => ∃ M0 e s W, W.H = H ∧ SF F M0 σ e s W ∧ Pk F M0 σ e W (f e s) fun b s' W' => SF F M0 σ e s' W' → Q b W'.H
def tDs (F : Frm) (f : Env → Sto → RS (List D)) : TA := fun σ H Q => ∃ M0 e s W, W.H = H ∧ SF F M0 σ e s W ∧ Pk F M0 σ e W (f e s) fun ds s' W' => ∀ vs, SF F M0 σ e s' W' → Reps F.G W' ds vs → Q vs W'.H
def tBs (F : Frm) (f : Env → Sto → RS (List D)) : TA := fun σ H Q => ∃ M0 e s W, W.H = H ∧ SF F M0 σ e s W ∧ Pk F M0 σ e W (f e s) fun ds s' W' => ∀ vs, SF F M0 σ e s' W' → Looks F.G W' ds vs → Q vs W'.H

theorem SF.m0_congr {M0' : Addr → Prop} (h : SF F M0 σ e s W) (c : ∀ a, M0 a ↔ M0' a) : SF F M0' σ e s W :=
  ⟨fun a => (h.mu a).trans (or_congr (c a) Iff.rfl), h.len, h.val, fun i o q => let ⟨a, e1, e2, e3, e4⟩ := h.own i o q; ⟨a, e1, e2, fun z => e3 ((c a).mpr z), e4⟩, h.apart, h.stl,
    fun n o q => let ⟨a, e1, e2, e3⟩ := h.sto n o q; ⟨a, e1, e2, fun z => e3 ((c a).mpr z)⟩, h.nd, h.keep, fun a z => h.m0 a ((c a).mpr z), h.xs, h.fresh, h.ins⟩
/-- an address where nothing is tracked -/
theorem SF.free (h : SF F M0 σ e s W) {p : Addr} (hp : W.H p = none) : ¬ W.Mu p ∧ F.He p = none ∧ p ∉ W.ρ ∧ ¬ M0 p := by
  have ne : ∀ {a : Addr} {u : HO}, W.H a = some u → a ≠ p := fun e z => by rw [z, hp] at e; cases e
  have nm : ¬ M0 p := fun z => by obtain ⟨u, q, _⟩ := h.m0 p z; exact ne q rfl
  have nr : p ∉ W.ρ := fun z => by
    obtain ⟨n, hn⟩ := List.getElem?_of_mem z
    have hl : n < s.length := by rw [← h.stl]; exact (List.getElem?_eq_some_iff.mp hn).1
    obtain ⟨a, e1, e2, _⟩ := h.sto n s[n] (by simp [hl])
    rw [hn] at e1
    cases e1
    obtain ⟨u, q⟩ := e2.some
    exact ne q rfl
  refine ⟨fun z => ?_, ?_, nr, nm⟩
  · rcases (h.mu p).mp z with z | z | ⟨i, u, z1, z2⟩
    · exact nm z
    · exact nr z
    · obtain ⟨a, e1, e2, _⟩ := h.own i u z1
      rw [z2] at e1
      cases e1
      obtain ⟨u, q⟩ := e2.some
      exact ne q rfl
  · cases q : F.He p with
    | none => rfl
    | some u =>
      by_cases hx : F.Xs p
      · obtain ⟨u, q⟩ := h.xs p hx
        exact absurd rfl (ne q)
      · exact absurd rfl (ne (h.keep p u q nr hx))
/-- a tuple cannot change -/
theorem SF.tup (h : SF F M0 σ e s W) {p : Addr} {vs : List V} (hp : W.H p = some (.tup vs)) : ¬ W.Mu p := by
  have sh : ∀ {o : Own}, Shows F.G W p o → False := fun {o} z => by
    cases o with
    | lst ds => obtain ⟨_, e, _⟩ := z; rw [hp] at e; cases e
    | dK ks ds => obtain ⟨_, e, _⟩ := z; rw [hp] at e; cases e
    | dT ks ds => obtain ⟨_, e, _⟩ := z; rw [hp] at e; cases e
    | ins c ns ds => obtain ⟨_, _, e, _⟩ := z; rw [hp] at e; cases e
  intro z
  rcases (h.mu p).mp z with z | z | ⟨i, u, z1, z2⟩
  · obtain ⟨o, e, q⟩ := h.m0 p z
    rw [hp] at e
    cases e
    exact q vs rfl
  · obtain ⟨n, hn⟩ := List.getElem?_of_mem z
    have hl : n < s.length := by rw [← h.stl]; exact (List.getElem?_eq_some_iff.mp hn).1
    obtain ⟨a, e1, e2, _⟩ := h.sto n s[n] (by simp [hl])
    rw [hn] at e1
    cases e1
    exact sh e2
  · obtain ⟨a, e1, e2, _⟩ := h.own i u z1
    rw [z2] at e1
    cases e1
    exact sh e2
/-- a new object; b: it may be changed by its maker -/
theorem SF.laid (b : Prop) (h : SF F M0 σ e s W) {p : Addr} {o : HO} (hp : W.H p = none) (ho : b → ∀ vs, o ≠ .tup vs) :
    SF F (fun a => M0 a ∨ (b ∧ a = p)) σ e s ⟨W.ρ, fun a => W.Mu a ∨ (b ∧ a = p), upd W.H p o⟩ ∧ Le W ⟨W.ρ, fun a => W.Mu a ∨ (b ∧ a = p), upd W.H p o⟩ := by
  have ne : ∀ {a : Addr} {u : HO}, W.H a = some u → a ≠ p := fun e z => by rw [z, hp] at e; cases e
  obtain ⟨nmu, _, nr, nm⟩ := h.free hp
  have l : Le W ⟨W.ρ, fun a => W.Mu a ∨ (b ∧ a = p), upd W.H p o⟩ := ⟨List.prefix_refl _, fun a u q _ => by show upd W.H p o a = _; rw [upd_ne (ne q)]; exact q,
    fun a z => z.imp id fun q => by rw [q.2]; exact hp, fun _ z => .inl z, h.cm⟩
  refine ⟨⟨fun a => ?_, h.len, fun i d q => ?_, fun i u q => ?_, h.apart, h.stl, fun n u q => ?_, h.nd, fun a u q h1 h2 => ?_, fun a z => ?_, fun a z => ?_, h.fresh, h.ins⟩, l⟩
  · constructor
    · rintro (z | z)
      · exact ((h.mu a).mp z).imp .inl id
      · exact .inl (.inr z)
    · rintro ((z | z) | z)
      · exact .inl ((h.mu a).mpr (.inl z))
      · exact .inr z
      · exact .inl ((h.mu a).mpr (.inr z))
  · obtain ⟨v, e1, e2⟩ := h.val i d q
    exact ⟨v, e1, e2.le l⟩
  · obtain ⟨a, e1, e2, e3, e4, e5⟩ := h.own i u q
    obtain ⟨x, ex⟩ := e2.some
    exact ⟨a, e1, e2.le l e4, fun z => z.elim e3 fun z => ne ex z.2, e4, e5⟩
  · obtain ⟨a, e1, e2, e3⟩ := h.sto n u q
    obtain ⟨x, ex⟩ := e2.some
    refine ⟨a, e1, ?_, fun z => z.elim e3 fun z => ne ex z.2⟩
    have key : upd W.H p o a = W.H a := upd_ne (ne ex)
    cases u with
    | lst ds => obtain ⟨vs, z, r⟩ := e2; exact ⟨vs, key.trans z, r.le l⟩
    | dK ks ds => obtain ⟨vs, z, y, nd, r⟩ := e2; exact ⟨vs, key.trans z, y, nd, r.le l⟩
    | dT ks ds => obtain ⟨vs, z, y, r⟩ := e2; exact ⟨vs, key.trans z, y, r.le l⟩
    | ins c ns ds => obtain ⟨dx, vs, z, y, r, t⟩ := e2; exact ⟨dx, vs, key.trans z, y, r.le l, t⟩
  · have k := h.keep a u q h1 h2
    show upd W.H p o a = _
    rw [upd_ne (ne k)]
    exact k
  · rcases z with z | z
    · obtain ⟨u, q, q'⟩ := h.m0 a z
      exact ⟨u, by show upd W.H p o a = _; rw [upd_ne (ne q)]; exact q, q'⟩
    · exact ⟨o, by rw [z.2]; exact upd_same, ho z.1⟩
  · obtain ⟨u, q⟩ := h.xs a z
    exact ⟨u, by show upd W.H p o a = _; rw [upd_ne (ne q)]; exact q⟩
abbrev Wd.lay (W : Wd) (p : Addr) (o : HO) : Wd := ⟨W.ρ, fun a => W.Mu a ∨ (False ∧ a = p), upd W.H p o⟩
abbrev Wd.layM (W : Wd) (p : Addr) (o : HO) : Wd := ⟨W.ρ, fun a => W.Mu a ∨ (True ∧ a = p), upd W.H p o⟩
theorem SF.lay (h : SF F M0 σ e s W) {p : Addr} {o : HO} (hp : W.H p = none) : SF F M0 σ e s (W.lay p o) ∧ Le W (W.lay p o) ∧ ¬ (W.lay p o).Mu p := by
  obtain ⟨a, b⟩ := h.laid False (o := o) hp fun z => z.elim
  exact ⟨a.m0_congr fun a => ⟨fun z => z.elim id fun z => z.1.elim, .inl⟩, b, fun z => z.elim (h.free hp).1 fun z => z.1⟩
/-- a new list, dict: it may become a name's own -/
theorem SF.layM (h : SF F M0 σ e s W) {p : Addr} {o : HO} (hp : W.H p = none) (ho : ∀ vs, o ≠ .tup vs) : SF F (fun a => M0 a ∨ a = p) σ e s (W.layM p o) ∧ Le W (W.layM p o) ∧ ¬ M0 p ∧ F.He p = none := by
  obtain ⟨a, b⟩ := h.laid True (o := o) hp fun _ => ho
  exact ⟨a.m0_congr fun a => ⟨fun z => z.imp id fun z => z.2, fun z => z.imp id fun z => ⟨trivial, z⟩⟩, b, (h.free hp).2.2.2, (h.free hp).2.1⟩
/-- what was new is kept as it is -/
theorem RvOk.frz {rv : Rv} {d : D} {v : V} (h : RvOk F M0 σ e s W rv v) (q : frz F.G.T rv = some d) : ∃ W', W'.H = W.H ∧ Le W W' ∧ SF F M0 σ e s W' ∧ Rep F.G W' d v := by
  cases rv with
  | val x =>
    cases q
    exact ⟨W, rfl, h.1.refl, h.1, h.2⟩
  | fr o =>
    obtain ⟨p, rfl, sf, sh, nm, _, _⟩ := h
    have nown : ∀ (i : Nat) (u : Own), e[i]? = some (some (.own u)) → σ[i]? = some (some (.ref p)) → False := fun i u q1 q2 => by
      obtain ⟨a, e1, _, e3, _⟩ := sf.own i u q1
      rw [q2] at e1
      cases e1
      exact e3 (.inr rfl)
    have nr : p ∉ W.ρ := fun z => by
      obtain ⟨n, hn⟩ := List.getElem?_of_mem z
      have hl : n < s.length := by rw [← sf.stl]; exact (List.getElem?_eq_some_iff.mp hn).1
      obtain ⟨a, e1, e2, e3⟩ := sf.sto n s[n] (by simp [hl])
      rw [hn] at e1
      cases e1
      exact e3 (.inr rfl)
    have l : Le W ⟨W.ρ, fun a => W.Mu a ∧ a ≠ p, W.H⟩ := ⟨List.prefix_refl _, fun _ _ q _ => q, fun a z => .inl z.1, fun _ z => .inl z, sf.cm⟩
    refine ⟨⟨W.ρ, fun a => W.Mu a ∧ a ≠ p, W.H⟩, rfl, l, ⟨fun a => ?_, sf.len, fun i d q => ?_, fun i u q => ?_, sf.apart, sf.stl, fun n u q => ?_, sf.nd, sf.keep, fun a z => sf.m0 a (.inl z), sf.xs, sf.fresh, sf.ins⟩, ?_⟩
    · constructor
      · rintro ⟨z, ne⟩
        rcases (sf.mu a).mp z with (z | z) | z
        · exact .inl z
        · exact absurd z ne
        · exact .inr z
      · intro z
        refine ⟨(sf.mu a).mpr (z.imp .inl id), ?_⟩
        rintro rfl
        rcases z with z | z | ⟨i, u, q1, q2⟩
        · exact nm z
        · exact nr z
        · exact nown i u q1 q2
    · obtain ⟨v, e1, e2⟩ := sf.val i d q
      exact ⟨v, e1, e2.le l⟩
    · obtain ⟨a, e1, e2, e3, e4, e5⟩ := sf.own i u q
      exact ⟨a, e1, e2.le l e4, fun z => e3 (.inl z), e4, e5⟩
    · obtain ⟨a, e1, e2, e3⟩ := sf.sto n u q
      refine ⟨a, e1, ?_, fun z => e3 (.inl z)⟩
      cases u with
      | lst ds => obtain ⟨vs, z, r⟩ := e2; exact ⟨vs, z, r.le l⟩
      | dK ks ds => obtain ⟨vs, z, y, nd, r⟩ := e2; exact ⟨vs, z, y, nd, r.le l⟩
      | dT ks ds => obtain ⟨vs, z, y, r⟩ := e2; exact ⟨vs, z, y, r.le l⟩
      | ins c ns ds => obtain ⟨dx, vs, z, y, r, t⟩ := e2; exact ⟨dx, vs, z, y, r.le l, t⟩
    · exact (sh.le l nr).rep (fun z => z.2 rfl) q
end
end Wk

set_option Elab.async false
set_option linter.all false
set_option maxRecDepth 100000
set_option maxHeartbeats 4100000
/-! Operations on trees are those of Python. -/
namespace Wk
open PySem L2 PySem.Spec PyProof.Rows
theorem sz_le {n : Nat} (h : szOk n = true) : n ≤ sizeLine := Nat.le_trans (of_decide_eq_true h) (by rw [sizeLine_eq]; decide)
theorem sz_lt {n : Nat} (h : szOk n = true) : n + 2 ≤ sizeLine := Nat.le_trans (Nat.add_le_add_right (of_decide_eq_true h) 2) (by rw [sizeLine_eq]; decide)
theorem sz_two {m n : Nat} (h : szOk m = true) (k : szOk n = true) : m + n ≤ sizeLine := by
  have h := of_decide_eq_true h
  have k := of_decide_eq_true k
  rw [sizeLine_eq]
  omega
theorem bnd {a b : Bool} (h : (a && b) = true) : a = true ∧ b = true := Bool.and_eq_true_iff.mp h
section
variable {X : Cx} {pins : List (Addr × Obj)} {σ σ' : L2.St} {H : Hp} {s : Shared}
theorem Inv_lstR (I : Inv X pins σ H s) {a : Addr} {xs : List V} (h : Rd H a (.lst xs)) : ∃ (its : List Value) (n : Nat), Vals xs its ∧ xs.length = its.length ∧ s.heap.get? a = some { cls := .type "list", data := .seq its.toArray n } ∧ xs.length ≤ sizeLine := by
  obtain ⟨z, its, n, r, e⟩ := h.ok I.hok
  exact ⟨its, n, r, r.length, e, z⟩
/-- list + list -/
def rCatR : R2 := fun x y H Q => ∃ l b xs zs, x = .ref l ∧ y = .ref b ∧ Rd H l (.lst xs) ∧ Rd H b (.lst zs) ∧ xs.length + zs.length ≤ sizeLine ∧ ∀ p, H p = none → Q (.ref p) (upd H p (.lst (xs ++ zs)))
theorem op_catR : OpR X (binaryOp .Add) rCatR := by
  rintro pins s0 σ0 H0 _ _ v u Q I rx ry ⟨l1, l2, xs, zs, rfl, rfl, t1, t2, small, give⟩
  obtain rfl : v = .ref l1 := rx
  obtain rfl : u = .ref l2 := ry
  obtain ⟨c1, k1, v1, n1, at1, _⟩ := Inv_lstR I t1
  obtain ⟨c2, k2, v2, n2, at2, _⟩ := Inv_lstR I t2
  have made := I.lnew (t' := s0.toks) (v1.append v2) (by simpa using small)
  refine PySem.P.add_list at1 at2 ⟨.ref _, _, ?_, rfl, give _ I.fresh⟩ (by simpa [← n1, ← n2] using small)
  simpa using made
def rRepR : R2 := fun x y H Q => ∃ l k xs, x = .ref l ∧ y = .int k ∧ Rd H l (.lst xs) ∧ -(2 ^ 63) ≤ k ∧ k < 2 ^ 63 ∧ xs.length * k.toNat ≤ sizeLine ∧ ∀ q, H q = none → Q (.ref q) (upd H q (.lst (List.replicate k.toNat xs).flatten))
/-- arrays laid one behind another -/
theorem laid_out (cells : List Value) : ∀ (m : Nat) (acc : List Value), (List.replicate m cells.toArray).foldl (fun p q => p ++ q) acc.toArray = (acc ++ (List.replicate m cells).flatten).toArray := by
  intro m
  induction m with
  | zero => intro acc; simp
  | succ m ih =>
    intro acc
    have step := ih (acc ++ cells)
    simp only [List.replicate_succ, List.foldl_cons, List.flatten_cons, ← List.append_assoc]
    rw [← step]
    simp
theorem op_repR : OpR X (binaryOp .Mult) rRepR := by
  rintro pins s0 σ0 H0 _ _ v u Q I rx ry ⟨l, k, xs, rfl, rfl, tracked, low, high, small, give⟩
  obtain rfl : v = .ref l := rx
  obtain ⟨tok, rfl⟩ := ry
  obtain ⟨cells, n, rv, same, here, _⟩ := Inv_lstR I tracked
  have fits : cells.toArray.size * k.toNat ≤ sizeLine := by simpa [← same] using small
  have roof : (sizeLine : Nat) ≤ 2 ^ 59 := by decide
  have made := I.lnew (t' := s0.toks) (rv.rep k.toNat) (by simpa [Nat.mul_comm] using small)
  have whole : List.foldl (fun p q => p ++ q) #[] (List.replicate (if cells.toArray.isEmpty = true then 0 else k.toNat) cells.toArray) = (List.replicate k.toNat cells).flatten.toArray := by
    have go := laid_out cells k.toNat []
    cases cells with
    | nil => simp
    | cons c r => simpa using go
  have times := AutoListH.list___mul___list_int_3 l cells.toArray n k tok (by rw [fitsIndex_both low high]; simp) (by omega) (by rw [notLongL fits]; simp)
  refine wpAny_binaryOp_repeat_ref (by decide) ⟨_, here, rfl⟩ (fun t => typeIs_int t k tok) noFill_list_mul F.fills_int_mul F.slot_int_rmul repeat_list F.slot_int_index.lookup ?_
  refine call_meets F.slot_int_rmul (typeIs_int s0 k tok) F.entry_int_rmul (F.args_int_rmul_2 _ _) (int___rmul___int_list k tok l cells.toArray n) ⟨here, rfl, ⟨_, here, rfl⟩, ?_⟩
  refine call_meets F.slot_list_mul ⟨_, here, rfl⟩ F.entry_list_mul (F.args_list_mul_2 _ _) times ⟨here, ?_⟩
  rw [whole]
  exact ⟨.ref _, _, made, rfl, give _ I.fresh⟩
end

theorem Reps.nil_of {G : GS} {W : Wd} {ds : List D} (h : Reps G W ds []) : ds = [] := by
  cases ds with
  | nil => rfl
  | cons d ds =>
    simp only [Reps] at h
    obtain ⟨v, r, e, _⟩ := h
    cases e
theorem Reps.rep {G : GS} {W : Wd} {ds : List D} {vs : List V} (h : Reps G W ds vs) : ∀ n : Nat, Reps G W (List.replicate n ds).flatten (List.replicate n vs).flatten
  | 0 => .nil
  | n + 1 => by
    rw [List.replicate_succ, List.replicate_succ, List.flatten_cons, List.flatten_cons]
    exact h.append (Reps.rep h n)
section
variable {F : Frm} {M0 : Addr → Prop} {σ' : L2.St} {e : Env} {st : Sto} {W W1 : Wd}
/-- results: a scalar; a new list; a new tuple -/
theorem rv_val (sf : SF F M0 σ' e st W) {Q : VK} {d : D} {v : V} (hr : Rep F.G W d v) (k : ∀ v' W', Le W W' → RvOk F M0 σ' e st W' (.val d) v' → Q v' W'.H) : Q v W.H := k v W sf.refl ⟨sf, hr⟩
theorem rv_lst (sf : SF F M0 σ' e st W) {Q : VK} {ds : List D} {vs : List V} (hr : Reps F.G W ds vs) {p : Addr} (hp : W.H p = none) (k : ∀ v' W', Le W W' → RvOk F M0 σ' e st W' (.fr (.lst ds)) v' → Q v' W'.H) : Q (.ref p) (upd W.H p (.lst vs)) := by
  obtain ⟨a, b, c, d⟩ := sf.layM (o := .lst vs) hp nofun
  exact k (.ref p) (W.layM p (.lst vs)) b ⟨p, rfl, a, ⟨vs, upd_same, hr.le b⟩, c, d, nofun⟩
theorem rv_tup (sf : SF F M0 σ' e st W) {Q : VK} {ds : List D} {vs : List V} (hr : Reps F.G W ds vs) {p : Addr} (hp : W.H p = none) (k : ∀ v' W', Le W W' → RvOk F M0 σ' e st W' (.val (.tup ds)) v' → Q v' W'.H) : Q (.ref p) (upd W.H p (.tup vs)) := by
  obtain ⟨a, b, c⟩ := sf.lay (o := .tup vs) hp
  refine k (.ref p) (W.lay p (.tup vs)) b ⟨a, ?_⟩
  simp only [Rep]
  exact ⟨p, vs, rfl, hr.le b, c, upd_same⟩
theorem rep_int {G : GS} {i : Int} : Rep G W (.int i) (.int i) := by simp only [Rep]
theorem rep_bl {G : GS} {i : Bool} : Rep G W (.bl i) (.bl i) := by simp only [Rep]
theorem rep_str {G : GS} {i : Str} : Rep G W (.str i) (.str i) := by simp only [Rep]
theorem rep_non {G : GS} : Rep G W .non .non := by simp only [Rep]
end
section
variable {X : Cx} {pins : List (Addr × Obj)} {σ σ' : L2.St} {s : Shared} {F : Frm} {M0 : Addr → Prop} {e : Env} {st : Sto} {W : Wd}
theorem mul_of {i j : Int} (h : mulOk i j = true) : CMul i j ∨ CMulW i j := by
  unfold mulOk at h
  simp only [Bool.or_eq_true, Bool.and_eq_true, decide_eq_true_eq] at h
  rcases h with (h | h) | h
  · exact .inl (.inl h)
  · exact .inl (.inr h)
  · exact .inr h
theorem binD_ok (hK : X.K = F.G.K) {op : Operator} {a b : D} {rv : Rv} {x y : V} {v u : Value} {Q : VK} (I : Inv X pins σ W.H s) (rx : RelV x v) (ry : RelV y u) (sf : SF F M0 σ' e st W) (la : Look F.G W a x) (lb : Look F.G W b y)
    (hb : binD op a b = some rv) (k : ∀ v' W', Le W W' → RvOk F M0 σ' e st W' rv v' → Q v' W'.H) : wpAny (model X.prog X.w) X.A (binaryOp op v u) (EP X pins σ Q) X.xe s := by
  unfold binD at hb
  split at hb
  · cases hb
    cases la.int_inv; cases lb.int_inv
    exact op_add pins s σ _ _ _ v u Q I rx ry ⟨_, _, rfl, rfl, rv_val sf rep_int k⟩
  · split at hb
    · rename_i q
      cases hb
      cases la.str_inv; cases lb.str_inv
      exact op_add_str pins s σ _ _ _ v u Q I rx ry ⟨_, _, rfl, rfl, sz_two (bnd q).1 (bnd q).2, rv_val sf rep_str k⟩
    · cases hb
  · split at hb
    · rename_i q
      cases hb
      obtain ⟨l, vs, rfl, h1, h2⟩ := la.sqL
      obtain ⟨m, ws, rfl, h3, h4⟩ := lb.sqL
      exact op_catR pins s σ _ _ _ v u Q I rx ry ⟨l, m, vs, ws, rfl, rfl, h1, h3, by rw [← h2.length, ← h4.length]; exact sz_le q, fun p hp => rv_lst sf (h2.append h4) hp k⟩
    · cases hb
  · split at hb
    · rename_i q
      cases hb
      obtain ⟨l, vs, rfl, h1, h2⟩ := la.sqT
      obtain ⟨m, ws, rfl, h3, h4⟩ := lb.sqT
      rw [← hK] at h1 h3
      refine op_catA pins s σ _ _ _ v u Q I rx ry ⟨l, m, vs, ws, rfl, rfl, h1, h3, by rw [← h2.length, ← h4.length]; exact sz_le q, fun z => ?_, fun z1 z2 => ?_, fun _ _ p hp => rv_tup sf (h2.append h4) hp k⟩
      · subst z
        cases h2.nil_of
        exact rv_val sf lb k
      · subst z2
        cases h4.nil_of
        refine rv_val sf (d := .tup (_ ++ [])) ?_ k
        rw [List.append_nil]
        exact la
    · cases hb
  · cases hb
    cases la.int_inv; cases lb.int_inv
    exact op_sub pins s σ _ _ _ v u Q I rx ry ⟨_, _, rfl, rfl, rv_val sf rep_int k⟩
  · split at hb
    · rename_i q
      cases hb
      cases la.int_inv; cases lb.int_inv
      rcases mul_of q with c | c
      · exact op_mul pins s σ _ _ _ v u Q I rx ry ⟨_, _, rfl, rfl, c, rv_val sf rep_int k⟩
      · exact op_mulW pins s σ _ _ _ v u Q I rx ry ⟨_, _, rfl, rfl, c, rv_val sf rep_int k⟩
    · cases hb
  · split at hb
    · rename_i q
      cases hb
      obtain ⟨l, vs, rfl, h1, h2⟩ := la.sqL
      cases lb.int_inv
      simp only [Bool.and_eq_true, decide_eq_true_eq] at q
      obtain ⟨⟨q1, q2⟩, q3⟩ := q
      exact op_repR pins s σ _ _ _ v u Q I rx ry ⟨l, _, vs, rfl, rfl, h1, by omega, by omega, by rw [← h2.length]; exact sz_le q1, fun p hp => rv_lst sf (h2.rep _) hp k⟩
    · cases hb
  · split at hb
    · rename_i q
      cases hb
      cases la.int_inv; cases lb.int_inv
      unfold divOk at q
      simp only [Bool.or_eq_true, Bool.and_eq_true, decide_eq_true_eq] at q
      rcases q with q | q
      · exact op_fdivN pins s σ _ _ _ v u Q I rx ry ⟨_, _, rfl, rfl, q, rv_val sf rep_int k⟩
      · refine op_fdivW pins s σ _ _ _ v u Q I rx ry ⟨_, _, rfl, rfl, q, ?_⟩
        have e1 : ∀ i j : Int, 0 < j → i / j = i.fdiv j := fun i j h => (Int.fdiv_eq_ediv_of_nonneg i (Int.le_of_lt h)).symm
        show Q (V.int (_ / _)) _
        rw [e1 _ _ q.1]
        exact rv_val sf rep_int k
    · cases hb
  · split at hb
    · rename_i q
      cases hb
      cases la.int_inv; cases lb.int_inv
      exact op_modN pins s σ _ _ _ v u Q I rx ry ⟨_, _, rfl, rfl, q, rv_val sf rep_int k⟩
    · cases hb
  · split at hb
    · rename_i q
      cases hb
      cases la.int_inv; cases lb.int_inv
      exact op_pow pins s σ _ _ _ v u Q I rx ry ⟨_, _, rfl, rfl, q, rv_val sf rep_int k⟩
    · cases hb
  · cases hb

/-! ### comparisons -/
mutual
theorem Rep.dp {d : D} {x : V} {p : PyData} (h : Rep F.G W d x) (e : toPy d = some p) : Dp F.G.K W.H x p := by
  cases d <;> simp only [toPy, Option.some.injEq, reduceCtorEq, Option.map_eq_some_iff] at e
  case non => subst e; rw [h.non_inv]; exact .non
  case bl b => subst e; rw [h.bl_inv]; exact .bl b
  case int b => subst e; rw [h.int_inv]; exact .int b
  case str b => subst e; rw [h.str_inv]; exact .str b
  case tup ds =>
    obtain ⟨ps, e1, rfl⟩ := e
    obtain ⟨a, vs, rfl, h1, h2⟩ := h.sqT
    exact .tup h1 (Reps.dp h2 e1)
  case kt ds =>
    obtain ⟨ps, e1, rfl⟩ := e
    obtain ⟨a, vs, rfl, h1, h2⟩ := h.sqKT
    exact .tup h1 (Reps.dp h2 e1)
  case lst ds =>
    obtain ⟨ps, e1, rfl⟩ := e
    obtain ⟨a, vs, rfl, h1, h2⟩ := h.sqL
    exact .lst (.inl h1) (Reps.dp h2 e1)
theorem Reps.dp {ds : List D} {xs : List V} {ps : List PyData} (h : Reps F.G W ds xs) (e : toPys ds = some ps) : DpAll F.G.K W.H xs ps := by
  cases ds with
  | nil =>
    simp only [toPys, Option.some.injEq] at e
    subst e
    simp only [Reps] at h
    subst h
    exact .nil
  | cons d ds =>
    simp only [toPys, Option.bind_eq_some_iff, Option.map_eq_some_iff] at e
    obtain ⟨p, e1, ps', e2, rfl⟩ := e
    simp only [Reps] at h
    obtain ⟨v, r, rfl, h1, h2⟩ := h
    exact .cons (Rep.dp h1 e1) (Reps.dp h2 e2)
end
theorem Look.dp {d : D} {x : V} {p : PyData} (h : Look F.G W d x) (e : toPy d = some p) : Dp F.G.K W.H x p := by
  cases d with
  | lst ds =>
    simp only [toPy, Option.map_eq_some_iff] at e
    obtain ⟨ps, e1, rfl⟩ := e
    obtain ⟨a, vs, rfl, h1, h2⟩ := h.sqL
    exact .lst (.inl h1) (h2.dp e1)
  | dK ks ds => simp only [toPy, reduceCtorEq] at e
  | dT ks ds => simp only [toPy, reduceCtorEq] at e
  | obj c ds => simp only [toPy, reduceCtorEq] at e
  | _ => exact Rep.dp (d := _) h e
/-- the facts that do not change -/
structure GlOk (G : GS) (w : World) : Prop where
  kd : ∀ x (z : Str), (match (G.T.kds x).lookup z with
    | some d => ∃ u v, PySem.W.nsIn G.K (G.kA x) z = some (some u) ∧ RelV v u ∧ ∀ W, Rep G W d v
    | none => PySem.W.nsIn G.K (G.kA x) z = some none) ∨ G.T.kds x = []
  kdd : ∀ x, G.T.kds x = [] ∨ ∃ es n, KDict G.K w (G.kA x) es n
theorem GlOk.get {G : GS} {w : World} (g : GlOk G w) {x : Nat} {z : Str} (ne : G.T.kds x ≠ []) : ∃ es n, KDict G.K w (G.kA x) es n ∧ ((G.T.kds x).lookup z = none ∧ PySem.W.nsIn G.K (G.kA x) z = some none ∨
    ∃ d u v, (G.T.kds x).lookup z = some d ∧ PySem.W.nsIn G.K (G.kA x) z = some (some u) ∧ RelV v u ∧ ∀ W, Rep G W d v) := by
  obtain ⟨es, n, k⟩ := (g.kdd x).resolve_left ne
  refine ⟨es, n, k, ?_⟩
  have q := (g.kd x z).resolve_right ne
  cases h : (G.T.kds x).lookup z with
  | none => rw [h] at q; exact .inl ⟨rfl, q⟩
  | some d =>
    rw [h] at q
    obtain ⟨u, v, q1, q2, q3⟩ := q
    exact .inr ⟨d, u, v, rfl, q1, q2, q3⟩
theorem keyD_rep {d : D} {k : Key} {v : V} (h : Look F.G W d v) (e : keyD d = some k) : v = kV k := by
  cases d <;> simp only [keyD, Option.some.injEq, reduceCtorEq] at e
  case int i => subst e; exact h.int_inv
  case str x => subst e; exact h.str_inv
theorem keysD_rep : ∀ {ds : List D} {ks : List Key} {vs : List V}, Reps F.G W ds vs → keysD ds = some ks → vs = ks.map kV
  | [], ks, vs, h, e => by
    simp only [keysD, Option.some.injEq] at e
    subst e
    simp only [Reps] at h
    subst h
    rfl
  | d :: ds, ks, vs, h, e => by
    simp only [keysD, Option.bind_eq_some_iff, Option.map_eq_some_iff] at e
    obtain ⟨k, e1, ks', e2, rfl⟩ := e
    simp only [Reps] at h
    obtain ⟨v, r, rfl, h1, h2⟩ := h
    rw [keysD_rep h2 e2, List.map_cons]
    congr 1
    cases d <;> simp only [keyD, Option.some.injEq, reduceCtorEq] at e1
    case int i => subst e1; exact h1.int_inv
    case str x => subst e1; exact h1.str_inv
theorem findK_rep {κ : Type} [DecidableEq κ] : ∀ {ks : List κ} {ds : List D} {vs : List V} (k : κ), Reps F.G W ds vs → ks.length = vs.length →
    (findK ks ds k = none ∧ valV (ks.zip vs) k = none) ∨ ∃ d v, findK ks ds k = some d ∧ valV (ks.zip vs) k = some v ∧ Rep F.G W d v
  | [], ds, vs, k, h, e => .inl ⟨by cases ds <;> rfl, rfl⟩
  | x :: ks, [], vs, k, h, e => by
    simp only [Reps] at h
    subst h
    simp at e
  | x :: ks, d :: ds, vs, k, h, e => by
    simp only [Reps] at h
    obtain ⟨v, r, rfl, h1, h2⟩ := h
    by_cases hk : x = k
    · refine .inr ⟨d, v, by unfold findK; rw [if_pos hk], ?_, h1⟩
      exact valV_pos (p := (x, v)) hk
    · rcases findK_rep (ks := ks) k h2 (by simpa using e) with ⟨a, b⟩ | ⟨d', v', a, b, c⟩
      · refine .inl ⟨by unfold findK; rw [if_neg hk]; exact a, ?_⟩
        exact (valV_neg (p := (x, v)) hk).trans b
      · refine .inr ⟨d', v', by unfold findK; rw [if_neg hk]; exact a, ?_, c⟩
        exact (valV_neg (p := (x, v)) hk).trans b
theorem findK_isSome {κ : Type} [DecidableEq κ] {ks : List κ} {ds : List D} {vs : List V} (k : κ) (h : Reps F.G W ds vs) (e : ks.length = vs.length) : (valV (ks.zip vs) k).isSome = (findK ks ds k).isSome := by
  rcases findK_rep k h e with ⟨z1, z2⟩ | ⟨d', v', z1, z2, _⟩ <;> rw [z1, z2] <;> rfl
theorem rd_tup {a : Addr} {vs : List V} (h : W.H a = some (.tup vs)) {ks : List Key} (e : vs = ks.map kV) : W.H a = some (.tup (ks.map kV)) := by rw [← e]; exact h
theorem Look.isNon {d : D} {v : V} (h : Look F.G W d v) : decide (v = .non) = isNonD d := by
  cases d with
  | non => rw [h.non_inv]; rfl
  | bl b => rw [h.bl_inv]; rfl
  | int b => rw [h.int_inv]; rfl
  | str b => rw [h.str_inv]; rfl
  | tup ds => obtain ⟨a, vs, rfl, _⟩ := h.sqT; rfl
  | kt ds => obtain ⟨a, vs, rfl, _⟩ := h.sqKT; rfl
  | kl ds => obtain ⟨a, vs, rfl, _⟩ := h.sqKL; rfl
  | lst ds => obtain ⟨a, vs, rfl, _⟩ := h; rfl
  | dK ks ds => obtain ⟨a, vs, rfl, _⟩ := h; rfl
  | dT ks ds => obtain ⟨a, vs, rfl, _⟩ := h; rfl
  | obj c ds => obtain ⟨a, dx, vs, ci, rfl, _⟩ := h; rfl
  | ref n =>
    unfold Look at h
    simp only [Rep] at h
    obtain ⟨a, rfl, _⟩ := h
    rfl
  | kd n =>
    unfold Look at h
    simp only [Rep] at h
    subst h
    rfl
  | g n =>
    unfold Look at h
    simp only [Rep] at h
    subst h
    rfl
  | ty n =>
    unfold Look at h
    simp only [Rep] at h
    subst h
    rfl
theorem Reps.empty {G : GS} {W : Wd} {ds : List D} {vs : List V} (h : Reps G W ds vs) : ds.isEmpty = vs.isEmpty := by
  cases ds with
  | nil => simp only [Reps] at h; subst h; rfl
  | cons d ds =>
    simp only [Reps] at h
    obtain ⟨v, r, rfl, _⟩ := h
    rfl
/-- in, not in -/
theorem inD_ok (hK : X.K = F.G.K) (g : GlOk F.G X.w) (hu : X.A.units + 65 < cLine) (neg : Bool) {a b : D} {r : Bool} {x y : V} {v u : Value} {Q : VK} (I : Inv X pins σ W.H s) (rx : RelV x v) (ry : RelV y u) (la : Look F.G W a x) (lb : Look F.G W b y)
    (hb : inD F.G.T a b = some r) (k : Q (.bl (if neg then !r else r)) W.H) : wpAny (model X.prog X.w) X.A (compareOp (if neg then .NotIn else .In) v u) (EP X pins σ Q) X.xe s := by
  unfold inD at hb
  split at hb
  · split at hb
    · cases hb
      cases la.str_inv; cases lb.str_inv
      cases neg
      · exact op_in_str pins s σ _ _ _ v u Q I rx ry ⟨_, _, rfl, rfl, k⟩
      · exact op_notin_str pins s σ _ _ _ v u Q I rx ry ⟨_, _, rfl, rfl, k⟩
    · cases hb
  · simp only [Option.bind_eq_some_iff] at hb
    obtain ⟨p, e1, ps, e2, hb⟩ := hb
    split at hb
    · rename_i q
      cases hb
      have hp : ∀ ds, toPys ds = some ps → toPy (.lst ds) = some (.list ps) := fun ds z => by simp only [toPy, z, Option.map_some]
      cases neg
      · exact op_inD hu pins s σ _ _ _ v u Q I rx ry ⟨p, ps, by rw [hK]; exact la.dp e1, by rw [hK]; exact lb.dp (hp _ e2), q.1, q.2, k⟩
      · exact op_notInD hu pins s σ _ _ _ v u Q I rx ry ⟨p, ps, by rw [hK]; exact la.dp e1, by rw [hK]; exact lb.dp (hp _ e2), q.1, q.2, k⟩
    · cases hb
  · simp only [Option.bind_eq_some_iff] at hb
    obtain ⟨p, e1, ps, e2, hb⟩ := hb
    split at hb
    · rename_i q
      cases hb
      have hp : ∀ ds, toPys ds = some ps → toPy (.tup ds) = some (.tuple ps) := fun ds z => by simp only [toPy, z, Option.map_some]
      obtain ⟨as, r1⟩ := Dp.reads I p x v (by rw [hK]; exact la.dp e1) rx
      obtain ⟨bs, r2⟩ := Dp.reads I (.tuple ps) y u (by rw [hK]; exact lb.dp (hp _ e2)) ry
      have room : X.A.units + 1 + min (PyData.depthAll ps) p.depth < cLine := by
        have h1 := SeqAt.depth_of_shaped q.1
        have h2 : min (PyData.depthAll ps) p.depth ≤ p.depth := Nat.min_le_right _ _
        omega
      cases neg
      · exact SeqAt.in_tuple_reads r2 r1 (SeqAt.canLay_of_shaped q.2) (SeqAt.canLay_of_shaped q.1) room ⟨.bl _, _, I, rfl, k⟩
      · exact SeqAt.notIn_tuple_reads r2 r1 (SeqAt.canLay_of_shaped q.2) (SeqAt.canLay_of_shaped q.1) room ⟨.bl _, _, I, rfl, k⟩
    · cases hb
  · simp only [Option.bind_eq_some_iff] at hb
    obtain ⟨p, e1, ps, e2, hb⟩ := hb
    split at hb
    · rename_i q
      cases hb
      have hp : ∀ ds, toPys ds = some ps → toPy (.kt ds) = some (.tuple ps) := fun ds z => by simp only [toPy, z, Option.map_some]
      obtain ⟨as, r1⟩ := Dp.reads I p x v (by rw [hK]; exact la.dp e1) rx
      obtain ⟨bs, r2⟩ := Dp.reads I (.tuple ps) y u (by rw [hK]; exact lb.dp (hp _ e2)) ry
      have room : X.A.units + 1 + min (PyData.depthAll ps) p.depth < cLine := by
        have h1 := SeqAt.depth_of_shaped q.1
        have h2 : min (PyData.depthAll ps) p.depth ≤ p.depth := Nat.min_le_right _ _
        omega
      cases neg
      · exact SeqAt.in_tuple_reads r2 r1 (SeqAt.canLay_of_shaped q.2) (SeqAt.canLay_of_shaped q.1) room ⟨.bl _, _, I, rfl, k⟩
      · exact SeqAt.notIn_tuple_reads r2 r1 (SeqAt.canLay_of_shaped q.2) (SeqAt.canLay_of_shaped q.1) room ⟨.bl _, _, I, rfl, k⟩
    · cases hb
  · simp only [Option.map_eq_some_iff] at hb
    obtain ⟨kk, e1, rfl⟩ := hb
    obtain ⟨d, vs, rfl, h1, h2, h3, h4, h5⟩ := lb
    obtain rfl : u = Value.ref d := ry
    have ek := keyD_rep la e1
    subst ek
    have gg : DGet W.H d (kV kk) (valV (_ : List (Key × V)) kk) := DGet.k h2
    have e2 := findK_isSome kk h5 h3
    cases neg
    · exact d_in (by omega) I gg rx fun s1 I1 => ⟨.bl _, _, I1, rfl, by rw [e2]; exact k⟩
    · exact d_notIn (by omega) I gg rx fun s1 I1 => ⟨.bl _, _, I1, rfl, by rw [e2]; exact k⟩
  · split at hb
    · simp only [Option.map_eq_some_iff] at hb
      obtain ⟨kk, e1, rfl⟩ := hb
      obtain ⟨d, vs, rfl, h1, h2, h3, h5⟩ := lb
      obtain rfl : u = Value.ref d := ry
      have la' := la
      unfold Look at la'
      simp only [Rep] at la'
      obtain ⟨b, ws, rfl, h6, h7, h8⟩ := la'
      have gg : DGet W.H d (.ref b) (valV (_ : List (List Key × V)) kk) := DGet.t h2 (rd_tup h8 (keysD_rep h6 e1))
      have e2 := findK_isSome kk h5 h3
      cases neg
      · exact d_in (by omega) I gg rx fun s1 I1 => ⟨.bl _, _, I1, rfl, by rw [e2]; exact k⟩
      · exact d_notIn (by omega) I gg rx fun s1 I1 => ⟨.bl _, _, I1, rfl, by rw [e2]; exact k⟩
    · cases hb
  · rename_i n
    split at hb
    · rename_i z
      split at hb
      · cases hb
      · rename_i ne
        cases hb
        cases la.str_inv
        have lb' : y = .ref (F.G.kA n) := by simpa only [Look, Rep] using lb
        subst lb'
        obtain ⟨es, m, kd, q⟩ := g.get (z := z) (x := n) (by intro z; rw [z] at ne; exact ne rfl)
        rw [← hK] at kd q
        rcases q with ⟨q1, q2⟩ | ⟨d, u0, v0, q1, q2, _⟩
        · rw [q1] at k
          cases neg
          · exact op_in_kd kd pins s σ _ _ _ v u Q I rx ry ⟨_, _, rfl, rfl, q2, k⟩
          · exact op_notIn_kd kd pins s σ _ _ _ v u Q I rx ry ⟨_, _, rfl, rfl, q2, k⟩
        · rw [q1] at k
          cases neg
          · exact op_in_kd kd pins s σ _ _ _ v u Q I rx ry ⟨_, _, rfl, rfl, q2, k⟩
          · exact op_notIn_kd kd pins s σ _ _ _ v u Q I rx ry ⟨_, _, rfl, rfl, q2, k⟩
    · cases hb
  · cases hb

theorem cmpD_ok (hK : X.K = F.G.K) (g : GlOk F.G X.w) (hu : X.A.units + 65 < cLine) {op : CmpOp} {a b : D} {r : Bool} {x y : V} {v u : Value} {Q : VK} (I : Inv X pins σ W.H s) (rx : RelV x v) (ry : RelV y u) (la : Look F.G W a x) (lb : Look F.G W b y)
    (hb : cmpD F.G.T op a b = some r) (k : Q (.bl r) W.H) : wpAny (model X.prog X.w) X.A (compareOp op v u) (EP X pins σ Q) X.xe s := by
  unfold cmpD at hb
  split at hb
  · unfold eqD at hb
    simp only [Option.bind_eq_some_iff] at hb
    obtain ⟨p, e1, q, e2, hb⟩ := hb
    split at hb
    · rename_i z
      cases hb
      exact op_eqD (by omega) pins s σ _ _ _ v u Q I rx ry ⟨p, q, by rw [hK]; exact la.dp e1, by rw [hK]; exact lb.dp e2, z.1, z.2, k⟩
    · cases hb
  · unfold eqD at hb
    simp only [Option.bind_eq_some_iff, Option.map_eq_some_iff] at hb
    obtain ⟨r', ⟨p, e1, q, e2, hb⟩, rfl⟩ := hb
    split at hb
    · rename_i z
      cases hb
      exact op_neD (by omega) pins s σ _ _ _ v u Q I rx ry ⟨p, q, by rw [hK]; exact la.dp e1, by rw [hK]; exact lb.dp e2, z.1, z.2, k⟩
    · cases hb
  · split at hb
    · cases hb
      cases la.int_inv; cases lb.int_inv
      exact op_lt pins s σ _ _ _ v u Q I rx ry ⟨_, _, rfl, rfl, k⟩
    · cases hb
      cases la.str_inv; cases lb.str_inv
      exact op_lt_str pins s σ _ _ _ v u Q I rx ry ⟨_, _, rfl, rfl, k⟩
    · simp only [Option.bind_eq_some_iff, Option.map_eq_some_iff] at hb
      obtain ⟨is, e1, js, e2, rfl⟩ := hb
      obtain ⟨l, vs, rfl, h1, h2⟩ := la.sqT
      obtain ⟨m, ws, rfl, h3, h4⟩ := lb.sqT
      rw [h2.ints e1] at h1
      rw [h4.ints e2] at h3
      exact op_ltT (by omega) pins s σ _ _ _ v u Q I rx ry ⟨l, m, is, js, rfl, rfl, by rw [hK]; exact h1, by rw [hK]; exact h3, k⟩
    · cases hb
  · split at hb
    · cases hb
      cases la.int_inv; cases lb.int_inv
      exact op_le pins s σ _ _ _ v u Q I rx ry ⟨_, _, rfl, rfl, k⟩
    · cases hb
  · split at hb
    · cases hb
      cases la.int_inv; cases lb.int_inv
      exact op_gt pins s σ _ _ _ v u Q I rx ry ⟨_, _, rfl, rfl, k⟩
    · cases hb
  · split at hb
    · cases hb
      cases la.int_inv; cases lb.int_inv
      exact op_ge pins s σ _ _ _ v u Q I rx ry ⟨_, _, rfl, rfl, k⟩
    · cases hb
  · split at hb
    · cases hb
      cases lb.non_inv
      exact op_isN pins s σ _ _ _ v u Q I rx ry ⟨rfl, by rw [la.isNon]; exact k⟩
    · cases hb
  · split at hb
    · cases hb
      cases lb.non_inv
      refine op_notN pins s σ _ _ _ v u Q I rx ry ⟨rfl, ?_⟩
      rw [la.isNon]
      exact k
    · cases hb
  · exact inD_ok hK g hu false I rx ry la lb hb k
  · simp only [Option.map_eq_some_iff] at hb
    obtain ⟨r', e1, rfl⟩ := hb
    exact inD_ok hK g hu true I rx ry la lb e1 k
/-- truth, length -/
theorem truthD_ok (hK : X.K = F.G.K) {a : D} {r : Bool} {x : V} (la : Look F.G W a x) (hb : truthD a = some r) : TruV X.K x W.H r := by
  unfold truthD at hb
  split at hb
  · cases hb; cases la.non_inv; rfl
  · cases hb; cases la.bl_inv; rfl
  · cases hb; cases la.int_inv; rfl
  · split at hb
    · rename_i q; cases hb; cases la.str_inv; exact ⟨sz_le q, rfl⟩
    · cases hb
  · cases hb
    obtain ⟨l, vs, rfl, h1, h2⟩ := la.sqT
    exact .inr (.inl ⟨vs, by rw [hK]; exact h1, by rw [h2.empty]⟩)
  · cases hb
    obtain ⟨l, vs, rfl, h1, h2⟩ := la.sqKT
    exact .inr (.inl ⟨vs, by rw [hK]; exact h1, by rw [h2.empty]⟩)
  · cases hb
    obtain ⟨l, vs, rfl, h1, h2⟩ := la.sqKL
    exact .inl ⟨vs, by rw [hK]; exact h1, by rw [h2.empty]⟩
  · cases hb
    obtain ⟨l, vs, rfl, h1, h2⟩ := la.sqL
    exact .inl ⟨vs, .inl h1, by rw [h2.empty]⟩
  · cases hb
    obtain ⟨d, vs, rfl, h1, h2, h3, h4, h5⟩ := la
    refine .inr (.inr ⟨_, h2, ?_⟩)
    rename_i ks ds
    cases ks with
    | nil => rfl
    | cons k ks => cases vs with
      | nil => simp at h3
      | cons v vs => rfl
  · cases hb
theorem lenD_ok (hK : X.K = F.G.K) {a : D} {n : Nat} {x : V} (la : Look F.G W a x) (hb : lenD a = some n) : LenV X.K x W.H n := by
  unfold lenD at hb
  split at hb
  · split at hb
    · rename_i q; cases hb; cases la.str_inv; exact ⟨sz_le q, rfl⟩
    · cases hb
  · cases hb
    obtain ⟨l, vs, rfl, h1, h2⟩ := la.sqT
    exact .inr ⟨vs, by rw [hK]; exact h1, h2.length⟩
  · cases hb
    obtain ⟨l, vs, rfl, h1, h2⟩ := la.sqKT
    exact .inr ⟨vs, by rw [hK]; exact h1, h2.length⟩
  · cases hb
    obtain ⟨l, vs, rfl, h1, h2⟩ := la.sqKL
    exact .inl ⟨vs, by rw [hK]; exact h1, h2.length⟩
  · cases hb
    obtain ⟨l, vs, rfl, h1, h2⟩ := la.sqL
    exact .inl ⟨vs, .inl h1, h2.length⟩
  · cases hb
theorem atI_rep {ds : List D} {vs : List V} {i : Int} {d : D} (h : Reps F.G W ds vs) (e : atI ds i = some d) : ∃ v, atI vs i = some v ∧ Rep F.G W d v := by
  unfold atI at e ⊢
  rw [h.length] at e
  cases q : ixN vs.length i with
  | none => rw [q] at e; cases e
  | some j =>
    rw [q] at e
    exact h.at e
/-- a subscript -/
def rIdx (F : Frm) (w : World) (K : PySem.W.Frag) : R2 := fun x y H Q => (rIxL K x y H Q ∨ rIxT K x y H Q ∨ rIxS x y H Q) ∨ rIxD K w x y H Q
theorem idx_seq : IxR X (fun x y H Q => rIx X.K x y H Q ∨ rIxD X.K X.w x y H Q) := IxR.or ix_seq ix_kdict
/-- by place, of a list, a tuple, a text, a written dict -/
theorem idxD_ok (hK : X.K = F.G.K) (g : GlOk F.G X.w) {a b d : D} {x y : V} {Q : VK} (la : Look F.G W a x) (lb : Look F.G W b y) (hb : idxD F.G.T a b = some d) (nd : ∀ ks ds, a ≠ .dK ks ds) (nt : ∀ ks ds, a ≠ .dT ks ds) (k : ∀ v, Rep F.G W d v → Q v W.H) :
    rIx X.K x y W.H Q ∨ rIxD X.K X.w x y W.H Q := by
  unfold idxD at hb
  split at hb
  · obtain ⟨l, vs, rfl, h1, h2⟩ := la.sqL
    cases lb.int_inv
    obtain ⟨v, e1, e2⟩ := atI_rep h2 hb
    exact .inl (.inl ⟨l, vs, _, v, rfl, rfl, .inl h1, e1, k v e2⟩)
  · obtain ⟨l, vs, rfl, h1, h2⟩ := la.sqT
    cases lb.int_inv
    obtain ⟨v, e1, e2⟩ := atI_rep h2 hb
    exact .inl (.inr (.inl ⟨l, vs, _, v, rfl, rfl, by rw [hK]; exact h1, e1, k v e2⟩))
  · obtain ⟨l, vs, rfl, h1, h2⟩ := la.sqKT
    cases lb.int_inv
    obtain ⟨v, e1, e2⟩ := atI_rep h2 hb
    exact .inl (.inr (.inl ⟨l, vs, _, v, rfl, rfl, by rw [hK]; exact h1, e1, k v e2⟩))
  · obtain ⟨l, vs, rfl, h1, h2⟩ := la.sqKL
    cases lb.int_inv
    obtain ⟨v, e1, e2⟩ := atI_rep h2 hb
    exact .inl (.inl ⟨l, vs, _, v, rfl, rfl, by rw [hK]; exact h1, e1, k v e2⟩)
  · split at hb
    · rename_i q
      simp only [Option.map_eq_some_iff] at hb
      obtain ⟨c, e1, rfl⟩ := hb
      cases la.str_inv; cases lb.int_inv
      exact .inl (.inr (.inr ⟨_, _, c, rfl, rfl, sz_le q, e1, k _ rep_str⟩))
    · cases hb
  · exact absurd rfl (nd _ _)
  · exact absurd rfl (nt _ _)
  · rename_i n z
    split at hb
    · cases hb
    · rename_i ne
      cases lb.str_inv
      have la' : x = .ref (F.G.kA n) := by simpa only [Look, Rep] using la
      subst la'
      obtain ⟨es, m, kd, q⟩ := g.get (z := z) (x := n) (by intro z; rw [z] at ne; exact ne rfl)
      rcases q with ⟨q1, q2⟩ | ⟨d0, u0, v0, q1, q2, q3, q4⟩
      · rw [q1] at hb; cases hb
      · rw [q1] at hb
        cases hb
        refine .inr ⟨F.G.kA n, z, v0, rfl, rfl, ⟨es, m, u0, ?_⟩, k v0 (q4 W)⟩
        rw [hK]
        exact ⟨kd.at_, kd.lit, q2, q3⟩
  · cases hb
/-- a dict's -/
theorem dget_ok {a b d : D} {x y : V} (la : Look F.G W a x) (lb : Look F.G W b y) (hb : idxD F.G.T a b = some d) (hd : (∃ ks ds, a = .dK ks ds) ∨ ∃ ks ds, a = .dT ks ds) : ∃ l v, x = .ref l ∧ DGet W.H l y (some v) ∧ Rep F.G W d v := by
  rcases hd with ⟨ks, ds, rfl⟩ | ⟨ks, ds, rfl⟩
  · obtain ⟨l, vs, rfl, h1, h2, h3, h4, h5⟩ := la
    have hb : (keyD b).bind (fun k => findK ks ds k) = some d := by cases b <;> exact hb
    simp only [Option.bind_eq_some_iff] at hb
    obtain ⟨kk, e1, e2⟩ := hb
    have ek := keyD_rep lb e1
    subst ek
    rcases findK_rep kk h5 h3 with ⟨z1, z2⟩ | ⟨d', v', z1, z2, z3⟩
    · rw [z1] at e2; cases e2
    · rw [z1] at e2; cases e2
      exact ⟨l, v', rfl, by rw [← z2]; exact DGet.k h2, z3⟩
  · obtain ⟨l, vs, rfl, h1, h2, h3, h5⟩ := la
    cases b <;> simp only [idxD, reduceCtorEq, Option.bind_eq_some_iff] at hb
    obtain ⟨kk, e1, e2⟩ := hb
    have lb' := lb
    unfold Look at lb'
    simp only [Rep] at lb'
    obtain ⟨b, ws, rfl, h6, h7, h8⟩ := lb'
    rcases findK_rep kk h5 h3 with ⟨z1, z2⟩ | ⟨d', v', z1, z2, z3⟩
    · rw [z1] at e2; cases e2
    · rw [z1] at e2; cases e2
      exact ⟨l, v', rfl, by rw [← z2]; exact DGet.t h2 (rd_tup h8 (keysD_rep h6 e1)), z3⟩
end
end Wk

set_option Elab.async false
set_option linter.all false
set_option maxRecDepth 100000
set_option maxHeartbeats 4100000
/-! Expressions. -/
namespace Wk
open PySem L2 PySem.Spec PyProof.Rows
theorem PE_imp {X : Cx} {e : Expr} {t t' : TE} (h : PE X e t) (k : ∀ σ H Q, t' σ H Q → t σ H Q) : PE X e t' := ⟨fun pins s σ H Q I q => h.run pins s σ H Q I (k σ H Q q)⟩
theorem PT_imp {X : Cx} {e : Expr} {t t' : TT} (h : PT X e t) (k : ∀ σ H Q, t' σ H Q → t σ H Q) : PT X e t' := ⟨fun pins s σ H Q I q => h.run pins s σ H Q I (k σ H Q q)⟩
theorem PW_imp {X : Cx} {e : Expr} {t t' : TT} (h : PW X e t) (k : ∀ σ H Q, t' σ H Q → t σ H Q) : PW X e t' := ⟨fun wh pins s σ H Q I q => h.run wh pins s σ H Q I (k σ H Q q)⟩
theorem PA_imp {X : Cx} {es : List Expr} {t t' : TA} (h : PA X es t) (k : ∀ σ H Q, t' σ H Q → t σ H Q) : PA X es t' := ⟨fun pos pins s σ H Q I q => h.run pos pins s σ H Q I (k σ H Q q)⟩
theorem PK_imp {X : Cx} {es : List Keyword} {t t' : TA} (h : PK X es t) (k : ∀ σ H Q, t' σ H Q → t σ H Q) : PK X es t' := ⟨fun pos pins s σ H Q I q => h.run pos pins s σ H Q I (k σ H Q q)⟩
/-- globals, builtins -/
structure MgOk (G : GS) (mg : Str → Option Value) : Prop where
  glob : ∀ x d, G.T.glob x = some d → ∃ u v, mg (G.T.names x) = some u ∧ RelV v u ∧ ∀ W, Rep G W d v
  bi : ∀ f : Bi, mg (biN f) = none
  isi : mg "isinstance" = none
/-- a call by values -/
def ClR (F : Frm) (cl : CallT) (X : Cx) (key : Nat) (f : Addr) : Prop :=
  ∀ (pins : List (Addr × Obj)) (s : Shared) (σ σ' : L2.St) (W : Wd) (M0 : Addr → Prop) (e : Env) (st : Sto) (ds : List D) (vs : List V) (us : List Value) (kn : List Nat) (es : List D) (zs : List V) (ws : List Value) (Q : VK),
    L2.Inv X pins σ W.H s → SF F M0 σ' e st W → Vals vs us → Vals zs ws → Reps F.G W ds vs → Reps F.G W es zs → kn.length = es.length →
    Pk F M0 σ' e W (cl key ds (kn.zip es) st) (fun d s' W' => ∀ v, SF F M0 σ' e s' W' → Rep F.G W' d v → Q v W'.H) →
    wpAny (model X.prog X.w) X.A (call (.ref f) us ((kn.map F.G.T.names).zip ws)) (EP X pins σ Q) X.xe s
structure DunOk (F : Frm) (cl : CallT) (X : Cx) : Prop where
  bin : ∀ (pins : List (Addr × Obj)) (s : Shared) (σ σ' : L2.St) (W : Wd) (M0 : Addr → Prop) (e : Env) (st : Sto) (op : Operator) (a b : D) (x y : V) (v u : Value) (Q : VK), L2.Inv X pins σ W.H s → SF F M0 σ' e st W → RelV x v → RelV y u → Look F.G W a x → Look F.G W b y → (clsD st a).isSome = true →
    Pk F M0 σ' e W (binV F.G.T cl op a b st) (fun r s' W' => ∀ v, RvOk F M0 σ' e s' W' r v → Q v W'.H) → wpAny (model X.prog X.w) X.A (binaryOp op v u) (EP X pins σ Q) X.xe s
  cmp : ∀ (pins : List (Addr × Obj)) (s : Shared) (σ σ' : L2.St) (W : Wd) (M0 : Addr → Prop) (e : Env) (st : Sto) (op : CmpOp) (a b : D) (x y : V) (v u : Value) (Q : VK), L2.Inv X pins σ W.H s → SF F M0 σ' e st W → RelV x v → RelV y u → Look F.G W a x → Look F.G W b y →
    (op = .Eq ∨ op = .NotEq) ∧ (clsD st a).isSome = true ∨ (op = .In ∨ op = .NotIn) ∧ (clsD st b).isSome = true →
    Pk F M0 σ' e W (cmpV F.G.T cl op a b st) (fun r s' W' => ∀ v, SF F M0 σ' e s' W' → Rep F.G W' r v → Q v W'.H) → wpAny (model X.prog X.w) X.A (compareOp op v u) (EP X pins σ Q) X.xe s
  tru : ∀ (pins : List (Addr × Obj)) (s : Shared) (σ σ' : L2.St) (W : Wd) (M0 : Addr → Prop) (e : Env) (st : Sto) (a : D) (x : V) (v : Value) (Q : Bool → Hp → Prop), L2.Inv X pins σ W.H s → SF F M0 σ' e st W → RelV x v → Look F.G W a x → (clsD st a).isSome = true →
    Pk F M0 σ' e W (truthV F.G.T cl a st) (fun r s' W' => SF F M0 σ' e s' W' → Q r W'.H) → wpAny (model X.prog X.w) X.A (truthy v) (TP X pins σ Q) X.xe s
  idx : ∀ (value slice : Expr) (pins : List (Addr × Obj)) (s : Shared) (σ σ' : L2.St) (W : Wd) (M0 : Addr → Prop) (e : Env) (st : Sto) (a b : D) (x y : V) (v u : Value) (Q : VK), L2.Inv X pins σ W.H s → SF F M0 σ' e st W → RelV x v → RelV y u → Look F.G W a x → Look F.G W b y → (clsD st a).isSome = true →
    Pk F M0 σ' e W (idxV F.G.T cl a b st) (fun r s' W' => ∀ v, SF F M0 σ' e s' W' → Rep F.G W' r v → Q v W'.H) → subscripted slice false v u = operate [v, u] (getItem v u) → wpAny (model X.prog X.w) X.A (subscriptTail value slice v u) (EP X pins σ Q) X.xe s
/-- types -/
def tyNames : List String := ["int", "bool", "str", "tuple", "list", "NoneType", "dict"]
structure TyOk (G : GS) (K : PySem.W.Frag) (mg : Str → Option Value) : Prop where
  ins : ∀ c ci H a dx fs, G.T.cls c = some ci → H a = some (.ins (G.cA c) dx fs) → TyX K H (.ref a) (.ref (G.cA c))
  own : ∀ c t ci cj, G.T.cls c = some ci → G.T.cls t = some cj → PySem.W.kitOne K (.ref (G.cA c)) (.ref (G.cA t)) = some (decide (c = t))
  bt : ∀ t cj, G.T.cls t = some cj → ∀ n ∈ tyNames, PySem.W.kitOne K (.type n) (.ref (G.cA t)) = some false
  tb : ∀ c ci, G.T.cls c = some ci → ∀ n ∈ tyNames, PySem.W.kitOne K (.ref (G.cA c)) (.type n) = some false
  nm : ∀ t cj, G.T.cls t = some cj → mg (G.T.names t) = some (.ref (G.cA t))
structure ClOk (F : Frm) (cl : CallT) (X : Cx) : Prop where
  glo : ∀ f, F.G.T.kn f = true → (X.mg (F.G.T.names f) = some (.ref (F.G.gA f)) ∧ PySem.W.keepIn X.K (.ref (F.G.gA f)) = true ∧ ClR F cl X f (F.G.gA f))
  cls : ∀ c ci, F.G.T.cls c = some ci → Cls X.K (F.G.cA c) ∧ ∀ f ∈ ci.flds, NoAttr X.K (F.G.cA c) (F.G.T.names f)
  meth : ∀ c m k, F.G.T.meth c m = some k → Cls X.K (F.G.cA c) ∧ Meth X.K (F.G.cA c) (F.G.T.names m) (F.G.fA k) ∧ ClR F cl X k (F.G.fA k) ∧ ∀ ci, F.G.T.cls c = some ci → F.G.T.names m ∉ ci.flds.map F.G.T.names
  prop : ∀ c m k, F.G.T.prop c m = some k → Cls X.K (F.G.cA c) ∧ ∀ (pins : List (Addr × Obj)) (s : Shared) (σ σ' : L2.St) (W : Wd) (M0 : Addr → Prop) (e : Env) (st st' : Sto) (d d' : D) (a dx : Addr) (fs : List (Str × V)) (Q : VK) (b : Bool), L2.Inv X pins σ W.H s → SF F M0 σ' e st W → W.H a = some (.ins (F.G.cA c) dx fs) → Rep F.G W d (.ref a) →
    cl k [d] [] st = .ok d' st' → (∀ W', Le W W' → ∀ v, SF F M0 σ' e st' W' → Rep F.G W' d' v → Q v W'.H) → wpAny (model X.prog X.w) X.A (getAttr (.ref a) (F.G.T.names m) b) (EP X pins σ Q) X.xe s
  dun : DunOk F cl X
  inj : ∀ c ci f g, F.G.T.cls c = some ci → f ∈ ci.flds → F.G.T.names f = F.G.T.names g → f = g
/-- contexts that differ in the frame alone -/
structure Same (X X' : Cx) : Prop where
  prog : X'.prog = X.prog
  w : X'.w = X.w
  K : X'.K = X.K
  mg : X'.mg = X.mg
  base : X'.base = X.base
  calm : X'.calm = X.calm
  A : X'.A = X.A
theorem Same.refl (X : Cx) : Same X X := ⟨rfl, rfl, rfl, rfl, rfl, rfl, rfl⟩
theorem Same.trans {X Y Z : Cx} (a : Same X Y) (b : Same Y Z) : Same X Z := ⟨b.prog.trans a.prog, b.w.trans a.w, b.K.trans a.K, b.mg.trans a.mg, b.base.trans a.base, b.calm.trans a.calm, b.A.trans a.A⟩
structure XOk (F : Frm) (cl : CallT) (C : Ck) (X : Cx) : Prop where
  K : X.K = F.G.K
  calm : X.calm = true
  nd : X.N.Nodup
  N : X.N = C.N
  kind : X.env.scope.kind = .function
  sc : X.env.scope.names = C.sc.names
  sk : C.sc.kind = .function
  nm : C.nm = F.G.T.names
  ck : ∀ t, C.cl t = true → (F.G.T.cls t).isSome = true
  gl : GlOk F.G X.w
  mg : MgOk F.G X.mg
  ty : TyOk F.G X.K X.mg
  hu : X.A.units + 65 < cLine
  gd : X.A.guards = some []
  tk : Takes X (fun c d _ H => F.Wx c d H)
  kn : ∀ f, C.kn f = true → F.G.T.kn f = true
  cl : ∀ (F' : Frm) (X' : Cx), F'.G = F.G → Same X X' → Takes X' (fun c d _ H => F'.Wx c d H) → ClOk F' cl X'
theorem XOk.clk {F : Frm} {cl : CallT} {C : Ck} {X : Cx} (h : XOk F cl C X) : ClOk F cl X := h.cl F X rfl (Same.refl X) h.tk
def tI (F : Frm) (f : Env → Sto → RS (List D)) : TI := fun σ H R => ∃ M0 e s W, W.H = H ∧ SF F M0 σ e s W ∧ Pk F M0 σ e W (f e s) fun ds s' W' => SF F M0 σ e s' W' →
  ∀ (J : It) (Gs : Hp → Prop) (Y : Nat → Hp → V → Hp → Prop), Walk J ds.length Gs Y → (∀ W'', Ls W' W'' → Gs W''.H) →
    (∀ i x W'' H' M1 σ1 e1 s1, Ls W' W'' → SF F M1 σ1 e1 s1 W'' → Y i W''.H x H' → ∃ W3, W3.H = H' ∧ Le W'' W3 ∧ SF F M1 σ1 e1 s1 W3 ∧ ∃ d, ds[i]? = some d ∧ Rep F.G W3 d x) → R J W'.H
/-- while nothing is stored -/
def tJ (F : Frm) (f : Env → Sto → RS (List D)) : TI := fun σ H R => ∃ M0 e s W, W.H = H ∧ SF F M0 σ e s W ∧ Pk F M0 σ e W (f e s) fun ds s' W' => SF F M0 σ e s' W' →
  ∀ (J : It) (Gs : Hp → Prop) (Y : Nat → Hp → V → Hp → Prop), Walk J ds.length Gs Y → (∀ W'', Le W' W'' → Gs W''.H) →
    (∀ i x W'' H' M1 σ1 e1 s1, Le W' W'' → SF F M1 σ1 e1 s1 W'' → Y i W''.H x H' → ∃ W3, W3.H = H' ∧ Le W'' W3 ∧ SF F M1 σ1 e1 s1 W3 ∧ ∃ d, ds[i]? = some d ∧ Rep F.G W3 d x) → R J W'.H
section
variable {F : Frm} {cl : CallT} {C : Ck} {X : Cx} {x y z : Expr} {fa fb fc : Fv} {pos : Pos}
/-- a value kept -/
theorem s_asD (h : PE X x (tV F fa)) : PE X x (tD F fun e s => asD F.G.T (fa e s)) := by
  refine PE_imp h fun σ H Q ⟨M0, e, s, W, eW, sf, q⟩ => ⟨M0, e, s, W, eW, sf, ?_⟩
  refine Pk.thn (f := fun r s => RS.ofO (frz F.G.T r) s) q fun rv s1 W1 l1 q1 v ok => ?_
  obtain ⟨d, ed, q1⟩ := q1.ofO
  obtain ⟨W2, eH, l2, sf2, r2⟩ := ok.frz ed
  have q2 := q1 W2 l2 v sf2 r2
  rw [eH] at q2
  exact q2
theorem s_toB (h : PE X x (tD F fun e s => asD F.G.T (fa e s))) {a : Ex} (na : ∀ i, a ≠ .loc i) : PE X x (tLk F fun e s => asB F.G.T a e s (fa e s)) := by
  refine PE_imp h fun σ H Q ⟨M0, e, s, W, eW, sf, q⟩ => ⟨M0, e, s, W, eW, sf, ?_⟩
  have e1 : asB F.G.T a e s (fa e s) = asD F.G.T (fa e s) := by
    unfold asB asD
    cases a <;> first | rfl | exact absurd rfl (na _)
  dsimp only at q ⊢
  rw [e1] at q
  cases h1 : asD F.G.T (fa e s) with
  | ok d s1 =>
    rw [h1] at q
    exact fun W1 l1 v sf1 r1 => q W1 l1 v sf1 (r1.look sf1.cm)
  | ex c a s1 => rw [h1] at q; exact q
  | no => rw [h1] at q; exact q

theorem vis_of {sc : Scope} {x : Str} {N : List (Str × NameKind)} (e : sc.names = N) (h : (match N.lookup x with | some .local => true | some .cell => true | some .free => true | _ => false) = true) : Vis sc x := by
  unfold Vis
  rw [e]
  split at h
  · exact .inl ‹_›
  · exact .inr (.inl ‹_›)
  · exact .inr (.inr ‹_›)
  · cases h
theorem ne_of_bne {a b : Str} (h : (a != b) = true) : (a == b) = false := by simpa [bne] using h
theorem s_loc (hX : XOk F cl C X) {i : Nat} {n : Str} (h : chkE (.loc i) C (.Name n pos) = true) :
    PE X (.Name n pos) (tV F fun e s => RS.ofO ((slotD e i).map .val) s) ∧ PE X (.Name n pos) (tLk F fun e s => RS.ofO (slotB F.G.T e i) s) := by
  simp only [chkE, Bool.and_eq_true, decide_eq_true_eq] at h
  obtain ⟨⟨⟨h1, h2⟩, h3⟩, h4⟩ := h
  have base := pv (X := X) (pos := pos) i (x := n) (by rw [hX.N]; exact h1) (vis_of hX.sc h2) (ne_of_bne h3) (ne_of_bne h4)
  refine ⟨PE_imp base fun σ H Q ⟨M0, e, s, W, eW, sf, q⟩ => ?_, PE_imp base fun σ H Q ⟨M0, e, s, W, eW, sf, q⟩ => ?_⟩
  · obtain ⟨r, e1, q⟩ := q.ofO
    simp only [Option.map_eq_some_iff] at e1
    obtain ⟨d, e1, rfl⟩ := e1
    unfold slotD at e1
    split at e1
    · rename_i d' e2
      cases e1
      obtain ⟨v, e3, e4⟩ := sf.val i d e2
      rw [← eW]
      exact ⟨v, e3, q.ok sf v ⟨sf, e4⟩⟩
    · cases e1
  · obtain ⟨d, e1, q⟩ := q.ofO
    unfold slotB at e1
    split at e1
    · rename_i d' e2
      cases e1
      obtain ⟨v, e3, e4⟩ := sf.val i d e2
      rw [← eW]
      exact ⟨v, e3, q.ok sf v sf (e4.look sf.cm)⟩
    · rename_i o e2
      obtain ⟨a, e3, e4, e5, e6, e7⟩ := sf.own i o e2
      rw [← eW]
      exact ⟨.ref a, e3, q.ok sf _ sf (e4.look e6 e1)⟩
    · cases e1
theorem s_cst {d : D} {c : Const} {k : Nat} (h : chkE (.cst d) C (.Constant c k pos) = true) : PE X (.Constant c k pos) (tV F fun _ s => .ok (.val d) s) := by
  simp only [chkE] at h
  have fin : ∀ {v : V}, (∀ W, Rep F.G W d v) → ∀ σ H Q, tV F (fun _ s => .ok (.val d) s) σ H Q → tC v σ H Q := fun hv σ H Q ⟨M0, e, s, W, eW, sf, q⟩ => by
    rw [← eW]
    exact q.ok sf _ ⟨sf, hv W⟩
  unfold dcst at h
  split at h
  · exact PE_imp pe_non (fin fun W => rep_non)
  · have z := of_decide_eq_true h; subst z; exact PE_imp pe_bl (fin fun W => rep_bl)
  · have z := of_decide_eq_true h; subst z; exact PE_imp pe_int (fin fun W => rep_int)
  · have z := of_decide_eq_true h; subst z; exact PE_imp pe_str (fin fun W => rep_str)
  · cases h
theorem glo_of (hX : XOk F cl C X) {x : Str} (h : gloB C.sc x = true) : Gl X x ∧ (x == ("__debug__" : Str)) = false ∧ x ≠ "__name__" := by
  unfold gloB at h
  simp only [Bool.and_eq_true, decide_eq_true_eq] at h
  refine ⟨?_, ne_of_bne h.1.2, fun z => ?_⟩
  · show X.env.scope.names.lookup x = _
    rw [hX.sc]
    exact h.1.1
  · have := ne_of_bne h.2
    rw [z] at this
    simp at this
theorem s_glb (hX : XOk F cl C X) {g : Nat} {n : Str} (h : chkE (.glb g) C (.Name n pos) = true) : PE X (.Name n pos) (tV F fun _ s => RS.ofO ((F.G.T.glob g).map .val) s) := by
  simp only [chkE, Bool.and_eq_true, decide_eq_true_eq] at h
  obtain ⟨rfl, h2⟩ := h
  obtain ⟨h3, h4, h5⟩ := glo_of hX h2
  refine ⟨fun pins s σ H Q I ⟨M0, e, s0, W, eW, sf, q⟩ => ?_⟩
  obtain ⟨r, e1, q⟩ := q.ofO
  simp only [Option.map_eq_some_iff] at e1
  obtain ⟨d, e1, rfl⟩ := e1
  obtain ⟨u, v, m1, m2, m3⟩ := hX.mg.glob g d e1
  rw [← hX.nm] at m1
  refine (pe_glob h3 m1 m2 h4).run pins s σ H Q I ?_
  show Q v H
  rw [← eW]
  exact q.ok sf _ ⟨sf, m3 W⟩
/-- two operands looked at -/
def rTwo (F : Frm) {α : Type} (f : D → D → Sto → RS α) (K : (Addr → Prop) → L2.St → Env → Sto → Wd → α → V → Prop) : R2 := fun x y H Q => ∃ M0 σ' e s W a b, W.H = H ∧ SF F M0 σ' e s W ∧ Look F.G W a x ∧ Look F.G W b y ∧
  Pk F M0 σ' e W (f a b s) fun r s' W' => ∀ v, K M0 σ' e s' W' r v → Q v W'.H
theorem two_of {α : Type} {f : D → D → Sto → RS α} {K : (Addr → Prop) → L2.St → Env → Sto → Wd → α → V → Prop} {ga gb : Env → Sto → RS D} {σ : L2.St} {H : Hp} {Q : VK}
    (h : ∃ M0 e s W, W.H = H ∧ SF F M0 σ e s W ∧ Pk F M0 σ e W ((ga e s).bind fun x s => (gb e s).bind fun y s => f x y s) fun r s' W' => ∀ v, K M0 σ e s' W' r v → Q v W'.H) : tOp (rTwo F f K) (tLk F ga) (tLk F gb) σ H Q := by
  obtain ⟨M0, e, s, W, eW, sf, q⟩ := h
  refine ⟨M0, e, s, W, eW, sf, Pk.thn q fun a s1 W1 l1 q1 x sf1 lx => ?_⟩
  refine ⟨M0, e, s1, W1, rfl, sf1, Pk.thn q1 fun b s2 W2 l2 q2 y sf2 ly => ?_⟩
  exact ⟨M0, σ, e, s2, W2, a, b, rfl, sf2, lx.le l2, ly, q2⟩
theorem op_bin (hX : XOk F cl C X) {op : Operator} : OpR X (binaryOp op) (rTwo F (binV F.G.T cl op) (RvOk F)) := by
  intro pins s σ H x y v u Q I rx ry h
  obtain ⟨M0, σ', e, st, W, a, b, rfl, sf, la, lb, q⟩ := h
  cases hc : clsD st a with
  | some c => exact hX.clk.dun.bin pins s σ σ' W M0 e st op a b x y v u Q I sf rx ry la lb (by rw [hc]; rfl) q
  | none =>
    unfold binV at q
    rw [hc] at q
    obtain ⟨rv, e1, q⟩ := q.ofO
    exact binD_ok hX.K I rx ry sf la lb e1 fun v' W' l ok => q W' l v' ok
theorem s_bin (hX : XOk F cl C X) {op : Operator} {ga gb : Env → Sto → RS D} (ha : PE X x (tLk F ga)) (hb : PE X y (tLk F gb)) : PE X (.BinOp x op y pos) (tV F fun e s => (ga e s).bind fun a s => (gb e s).bind fun b s => binV F.G.T cl op a b s) :=
  PE_imp (pe_op (op_bin hX) ha hb) fun σ H Q h => two_of h
def DOk (F : Frm) (M0 : Addr → Prop) (σ : L2.St) (e : Env) (s : Sto) (W : Wd) (d : D) (v : V) : Prop := SF F M0 σ e s W ∧ Rep F.G W d v
theorem op_cmp (hX : XOk F cl C X) {op : CmpOp} : OpR X (compareOp op) (rTwo F (cmpV F.G.T cl op) (DOk F)) := by
  intro pins s σ H x y v u Q I rx ry h
  obtain ⟨M0, σ', e, st, W, a, b, rfl, sf, la, lb, q⟩ := h
  have fin : ∀ {r : Option Bool}, cmpD F.G.T op a b = r → Pk F M0 σ' e W (RS.ofO (r.map .bl) st) (fun r s' W' => ∀ v, DOk F M0 σ' e s' W' r v → Q v W'.H) → wpAny (model X.prog X.w) X.A (compareOp op v u) (EP X pins σ Q) X.xe s := fun {r} er q => by
    obtain ⟨d, e1, q⟩ := q.ofO
    simp only [Option.map_eq_some_iff] at e1
    obtain ⟨b', e1, rfl⟩ := e1
    rw [e1] at er
    exact cmpD_ok hX.K hX.gl hX.hu I rx ry la lb er (q.ok sf _ ⟨sf, rep_bl⟩)
  have dun : (op = .Eq ∨ op = .NotEq) ∧ (clsD st a).isSome = true ∨ (op = .In ∨ op = .NotIn) ∧ (clsD st b).isSome = true → wpAny (model X.prog X.w) X.A (compareOp op v u) (EP X pins σ Q) X.xe s := fun hd =>
    hX.clk.dun.cmp pins s σ σ' W M0 e st op a b x y v u Q I sf rx ry la lb hd (by
      cases hr : cmpV F.G.T cl op a b st with
      | ok d s1 => rw [hr] at q; exact fun W' l v sf' r => q W' l v ⟨sf', r⟩
      | ex c a s1 => rw [hr] at q; exact q
      | no => rw [hr] at q; exact q)
  cases op with
  | Eq =>
    cases hc : clsD st a with
    | some c => exact dun (.inl ⟨.inl rfl, by rw [hc]; rfl⟩)
    | none => simp only [cmpV, hc] at q; exact fin rfl q
  | NotEq =>
    cases hc : clsD st a with
    | some c => exact dun (.inl ⟨.inr rfl, by rw [hc]; rfl⟩)
    | none => simp only [cmpV, hc] at q; exact fin rfl q
  | In =>
    cases hc : clsD st b with
    | some c => exact dun (.inr ⟨.inl rfl, by rw [hc]; rfl⟩)
    | none => simp only [cmpV, hc] at q; exact fin rfl q
  | NotIn =>
    cases hc : clsD st b with
    | some c => exact dun (.inr ⟨.inr rfl, by rw [hc]; rfl⟩)
    | none => simp only [cmpV, hc] at q; exact fin rfl q
  | Lt => exact fin rfl q
  | LtE => exact fin rfl q
  | Gt => exact fin rfl q
  | GtE => exact fin rfl q
  | Is => exact fin rfl q
  | IsNot => exact fin rfl q
/-- a value of the tree d, handed on -/
theorem val_of {g : Env → Sto → RS D} {σ : L2.St} {H : Hp} {Q : VK} (h : tV F (fun e s => (g e s).bind fun d s => .ok (.val d) s) σ H Q) : ∃ M0 e s W, W.H = H ∧ SF F M0 σ e s W ∧ Pk F M0 σ e W (g e s) fun d s' W' => ∀ v, DOk F M0 σ e s' W' d v → Q v W'.H := by
  obtain ⟨M0, e, s, W, eW, sf, q⟩ := h
  refine ⟨M0, e, s, W, eW, sf, Pk.thn (f := fun d s => RS.ok (Rv.val d) s) q fun d s1 W1 l1 q1 v ok => ?_⟩
  exact q1.ok ok.1 v ok
theorem behind_ok {op : CmpOp} {y : Expr} (h : noSet y = true) : behindInMarks op y = false := by
  cases y <;> first | rfl | cases h
theorem s_cmp (hX : XOk F cl C X) {op : CmpOp} {ga gb : Env → Sto → RS D} (ha : PE X x (tLk F ga)) (hb : PE X y (tLk F gb)) (hy : noSet y = true) :
    PE X (.Compare x [op] [y] pos) (tV F fun e s => (ga e s).bind fun a s => (gb e s).bind fun b s => (cmpV F.G.T cl op a b s).bind fun z s => .ok (.val z) s) := by
  refine PE_imp (pe_cmpR (op_cmp hX) ha hb (behind_ok hy)) fun σ H Q h => ?_
  refine two_of ?_
  have h' : tV F (fun e s => ((ga e s).bind fun a s => (gb e s).bind fun b s => cmpV F.G.T cl op a b s).bind fun z s => .ok (.val z) s) σ H Q := by
    obtain ⟨M0, e, s, W, eW, sf, q⟩ := h
    refine ⟨M0, e, s, W, eW, sf, ?_⟩
    dsimp only at q ⊢
    cases h1 : ga e s with
    | ok a s1 =>
      rw [h1] at q
      simp only [RS.bind_ok] at q ⊢
      cases h2 : gb e s1 with
      | ok b s2 => rw [h2] at q; exact q
      | ex c a s2 => rw [h2] at q; exact q
      | no => rw [h2] at q; exact q
    | ex c a s1 => rw [h1] at q; exact q
    | no => rw [h1] at q; exact q
  exact val_of h'

theorem s_not {g : Env → Sto → RS D} (ha : PE X x (tLk F g)) : PE X (.UnaryOp .Not x pos) (tV F fun e s => (g e s).bind fun a s => match a with | .bl b => .ok (.val (.bl (!b))) s | _ => .no) := by
  refine PE_imp (pe_not ha) fun σ H Q ⟨M0, e, s, W, eW, sf, q⟩ => ⟨M0, e, s, W, eW, sf, Pk.thn q fun a s1 W1 l1 q1 v sf1 lk => ?_⟩
  cases a <;> first | exact q1.elim | skip
  cases lk.bl_inv
  exact ⟨_, rfl, q1.ok sf1 _ ⟨sf1, rep_bl⟩⟩
theorem s_neg {g : Env → Sto → RS D} (ha : PE X x (tLk F g)) : PE X (.UnaryOp .USub x pos) (tV F fun e s => (g e s).bind fun a s => match a with | .int b => .ok (.val (.int (-b))) s | _ => .no) := by
  refine PE_imp (pe_un un_neg ha) fun σ H Q ⟨M0, e, s, W, eW, sf, q⟩ => ⟨M0, e, s, W, eW, sf, Pk.thn q fun a s1 W1 l1 q1 v sf1 lk => ?_⟩
  cases a <;> first | exact q1.elim | skip
  cases lk.int_inv
  exact ⟨_, rfl, q1.ok sf1 _ ⟨sf1, rep_int⟩⟩
theorem s_ife {ft : Env → Sto → RS Bool} (hc : PT X x (tT F ft)) (ha : PE X y (tV F fa)) (hb : PE X z (tV F fb)) : PE X (.IfExp x y z pos) (tV F fun e s => (ft e s).bind fun b s => if b then fa e s else fb e s) := by
  refine PE_imp (pe_ifExp hc ha hb) fun σ H Q ⟨M0, e, s, W, eW, sf, q⟩ => ⟨M0, e, s, W, eW, sf, Pk.thn q fun b s1 W1 l1 q1 sf1 => ?_⟩
  cases b with
  | true => rw [if_pos rfl]; exact ⟨M0, e, s1, W1, rfl, sf1, q1⟩
  | false => rw [if_neg Bool.false_ne_true]; exact ⟨M0, e, s1, W1, rfl, sf1, q1⟩
/-- tests -/
theorem s_tnot {ft : Env → Sto → RS Bool} (h : PT X x (tT F ft)) : PT X (.UnaryOp .Not x pos) (tT F fun e s => (ft e s).bind fun b s => .ok (!b) s) := by
  refine PT_imp (pt_not h) fun σ H Q ⟨M0, e, s, W, eW, sf, q⟩ => ⟨M0, e, s, W, eW, sf, Pk.thn (f := fun b s => RS.ok (!b) s) q fun b s1 W1 l1 q1 sf1 => q1.ok sf1 sf1⟩
def tst (x : Expr) : Bool := match x with
  | .UnaryOp .Not _ _ => false
  | .BoolOp .. => false
  | .IfExp .. => false
  | .Compare .. => false
  | _ => true
theorem tst_true {x : Expr} (h : tst x = true) (env : PySem.Env) : ∀ whole, isTrue x env whole = (do let v ← whole; standAt x.pos; holding [v] (truthy v)) := by
  intro whole
  cases x <;> first | rfl | (simp [tst] at h; done) | skip
  rename_i op a p
  cases op <;> first | rfl | (simp [tst] at h; done)
theorem tru_all (hX : XOk F cl C X) {M0 : Addr → Prop} {σ : L2.St} {e : Env} {s : Sto} {W : Wd} {a : D} : ∀ (pins : List (Addr × Obj)) (sh : Shared) (σ' : L2.St) (x : V) (v : Value) (Q : Bool → Hp → Prop), L2.Inv X pins σ' W.H sh → RelV x v → SF F M0 σ e s W → Look F.G W a x →
    Pk F M0 σ e W (truthV F.G.T cl a s) (fun r s' W' => SF F M0 σ e s' W' → Q r W'.H) → wpAny (model X.prog X.w) X.A (truthy v) (TP X pins σ' Q) X.xe sh := by
  intro pins sh σ' x v Q I rx sf la q
  cases hc : clsD s a with
  | some c => exact hX.clk.dun.tru pins sh σ' σ W M0 e s a x v Q I sf rx la (by rw [hc]; rfl) q
  | none =>
    unfold truthV at q
    rw [hc] at q
    obtain ⟨b, e1, q⟩ := q.ofO
    exact tru_ok pins sh σ' W.H x v Q I rx ⟨b, truthD_ok hX.K la e1, q.ok sf sf⟩
/-- an expression's truth by its value -/
theorem s_truth (hX : XOk F cl C X) {g : Env → Sto → RS D} (h : PE X x (tLk F g)) (ht : tst x = true) : PT X x (tT F fun e s => (g e s).bind fun a s => truthV F.G.T cl a s) := by
  refine ⟨fun pins s0 σ H Q I ⟨M0, e, s, W, eW, sf, q⟩ => ?_⟩
  refine isTrue_plain (thn (h.run pins s0 σ H (fun x H1 => ∃ M0 e s W a, W.H = H1 ∧ SF F M0 σ e s W ∧ Look F.G W a x ∧ Pk F M0 σ e W (truthV F.G.T cl a s) fun r s' W' => SF F M0 σ e s' W' → Q r W'.H) I ⟨M0, e, s, W, eW, sf, Pk.thn q fun a s1 W1 l1 q1 v sf1 la => ⟨M0, e, s1, W1, a, rfl, sf1, la, q1⟩⟩) fun v s1 hv => ?_) (tst_true ht _ _)
  obtain ⟨x, H1, I1, r1, M0, e, s, W, a, rfl, sf1, la, q1⟩ := hv
  exact tru_all hX pins s1 σ x v Q I1 r1 sf1 la q1
/-- a comparison's -/
theorem s_tcmp (hX : XOk F cl C X) {op : CmpOp} {ga gb : Env → Sto → RS D} (ha : PE X x (tLk F ga)) (hb : PE X y (tLk F gb)) (hy : noSet y = true)
    (hbl : ∀ a b s d s', cmpV F.G.T cl op a b s = .ok d s' → ∃ r, d = .bl r) :
    PT X (.Compare x [op] [y] pos) (tT F fun e s => (((ga e s).bind fun a s => (gb e s).bind fun b s => (cmpV F.G.T cl op a b s).bind fun z s => .ok (.val z) s).bind fun r s => RS.ofO (frz F.G.T r) s).bind fun a s => truthV F.G.T cl a s) := by
  refine PT_imp (pt_cmpR (op_cmp hX) ha hb (behind_ok hy)) fun σ H Q ⟨M0, e, s, W, eW, sf, q⟩ => ?_
  refine two_of ⟨M0, e, s, W, eW, sf, ?_⟩
  dsimp only at q ⊢
  cases h1 : ga e s with
  | ok a s1 =>
    rw [h1] at q
    simp only [RS.bind_ok] at q ⊢
    cases h2 : gb e s1 with
    | ok b s2 =>
      rw [h2] at q
      simp only [RS.bind_ok] at q ⊢
      cases h3 : cmpV F.G.T cl op a b s2 with
      | ok d s3 =>
        rw [h3] at q
        obtain ⟨r, rfl⟩ := hbl _ _ _ _ _ h3
        simp only [RS.bind_ok, frz, RS.ofO_some, truthV, clsD, truthD] at q
        exact fun W' l v ok => by
          obtain ⟨sf', rp⟩ := ok
          cases rp.bl_inv
          exact ⟨r, rfl, q W' l sf'⟩
      | ex c a s2 => rw [h3] at q; exact q
      | no => rw [h3] at q; exact q
    | ex c a s2 => rw [h2] at q; exact q
    | no => rw [h2] at q; exact q
  | ex c a s1 => rw [h1] at q; exact q
  | no => rw [h1] at q; exact q
theorem cmpV_bl {T : IT} {op : CmpOp} {a b : D} {s s' : Sto} {d : D} (h : cmpV T cl op a b s = .ok d s') : ∃ r, d = .bl r := by
  have fin : ∀ {o : Option Bool} {s : Sto}, RS.ofO (o.map D.bl) s = .ok d s' → ∃ r, d = .bl r := fun {o s} h => by
    cases o with
    | none => cases h
    | some b => cases h; exact ⟨b, rfl⟩
  have fin2 : ∀ {r : RS D} {g : Bool → Bool}, (r.bind fun r s => match r with | .bl b => .ok (.bl (g b)) s | _ => .no) = RS.ok d s' → ∃ r, d = .bl r := fun {r g} h => by
    cases r with
    | ok x s1 => cases x <;> first | cases h; done | (cases h; exact ⟨_, rfl⟩)
    | ex _ _ _ => cases h
    | no => cases h
  unfold cmpV at h
  split at h
  · split at h
    · split at h
      · exact fin2 (g := id) h
      · cases h
    · exact fin h
  · split at h
    · split at h
      · exact fin2 (g := not) h
      · cases h
    · exact fin h
  · split at h
    · split at h
      · exact fin2 (g := id) h
      · cases h
    · exact fin h
  · split at h
    · split at h
      · exact fin2 (g := not) h
      · cases h
    · exact fin h
  · exact fin h
/-- several, looked at or kept -/
theorem star_of {a : Ex} (h : chkE a C x = true) (xs : List Expr) (env : PySem.Env) : starEach (x :: xs) env = (false, eval x env) :: starEach xs env := by
  cases x <;> first | rfl | skip
  cases a <;> simp [chkE] at h
theorem star_any : ∀ {as : Exs} {xs : List Expr} (h : chkEs as C xs = true) (pos : Pos) (env : PySem.Env), (backTo pos (starEach xs env)).any (·.1) = false
  | .nil, [], _, pos, env => rfl
  | .nil, _ :: _, h, _, _ => by simp [chkEs] at h
  | .cons _ _, [], h, _, _ => by simp [chkEs] at h
  | .cons a as, x :: xs, h, pos, env => by
    simp only [chkEs, Bool.and_eq_true] at h
    rw [star_of h.1]
    show (false || (backTo pos (starEach xs env)).any (·.1)) = false
    rw [star_any h.2 pos env]
    rfl
theorem s_nilD : PA X [] (tDs F fun _ s => .ok [] s) := PA_imp pa_nil fun σ H Q ⟨M0, e, s, W, eW, sf, q⟩ => by rw [← eW]; exact q.ok sf [] sf .nil
theorem s_nilB : PA X [] (tBs F fun _ s => .ok [] s) := PA_imp pa_nil fun σ H Q ⟨M0, e, s, W, eW, sf, q⟩ => by rw [← eW]; exact q.ok sf [] sf .nil
theorem s_consD {xs : List Expr} {g : Env → Sto → RS D} {gs : Env → Sto → RS (List D)} (ha : PE X x (tD F g)) (hs : PA X xs (tDs F gs)) (st : starEach (x :: xs) X.env = (false, eval x X.env) :: starEach xs X.env) :
    PA X (x :: xs) (tDs F fun e s => (g e s).bind fun a s => (gs e s).bind fun as s => .ok (a :: as) s) := by
  refine PA_imp (pa_cons ha hs st) fun σ H Q ⟨M0, e, s, W, eW, sf, q⟩ => ⟨M0, e, s, W, eW, sf, Pk.thn q fun a s1 W1 l1 q1 v sf1 ra => ⟨M0, e, s1, W1, rfl, sf1, Pk.thn (f := fun as s => RS.ok (a :: as) s) q1 fun as s2 W2 l2 q2 vs sf2 ras => ?_⟩⟩
  exact q2.ok sf2 (v :: vs) sf2 (.cons (ra.le l2) ras)
theorem s_consB {xs : List Expr} {g : Env → Sto → RS D} {gs : Env → Sto → RS (List D)} (ha : PE X x (tLk F g)) (hs : PA X xs (tBs F gs)) (st : starEach (x :: xs) X.env = (false, eval x X.env) :: starEach xs X.env) :
    PA X (x :: xs) (tBs F fun e s => (g e s).bind fun a s => (gs e s).bind fun as s => .ok (a :: as) s) := by
  refine PA_imp (pa_cons ha hs st) fun σ H Q ⟨M0, e, s, W, eW, sf, q⟩ => ⟨M0, e, s, W, eW, sf, Pk.thn q fun a s1 W1 l1 q1 v sf1 ra => ⟨M0, e, s1, W1, rfl, sf1, Pk.thn (f := fun as s => RS.ok (a :: as) s) q1 fun as s2 W2 l2 q2 vs sf2 ras => ?_⟩⟩
  exact q2.ok sf2 (v :: vs) sf2 (.cons (ra.le l2) ras)
theorem s_tup {es : List Expr} {k : Nat} {gs : Env → Sto → RS (List D)} (h : PA X es (tDs F gs)) : PE X (.Tuple es k pos) (tV F fun e s => (gs e s).bind fun xs s => if szOk xs.length then .ok (.val (.tup xs)) s else .no) := by
  refine PE_imp (pe_tup h) fun σ H Q ⟨M0, e, s, W, eW, sf, q⟩ => ⟨M0, e, s, W, eW, sf, Pk.thn (f := fun xs s => if szOk xs.length then RS.ok (Rv.val (.tup xs)) s else .no) q fun xs s1 W1 l1 q1 vs sf1 r1 => ?_⟩
  by_cases hz : szOk xs.length = true
  · rw [if_pos hz] at q1
    exact ⟨by rw [← r1.length]; exact sz_le hz, fun p hp => rv_tup sf1 r1 hp fun v' W' l ok => q1 W' l v' ok⟩
  · rw [if_neg hz] at q1
    exact q1.elim
theorem s_lst {es : List Expr} {gs : Env → Sto → RS (List D)} (h : PA X es (tDs F gs)) : PE X (.List es pos) (tV F fun e s => (gs e s).bind fun xs s => if szOk xs.length then .ok (.fr (.lst xs)) s else .no) := by
  refine PE_imp (pe_lst h) fun σ H Q ⟨M0, e, s, W, eW, sf, q⟩ => ⟨M0, e, s, W, eW, sf, Pk.thn (f := fun xs s => if szOk xs.length then RS.ok (Rv.fr (.lst xs)) s else .no) q fun xs s1 W1 l1 q1 vs sf1 r1 => ?_⟩
  by_cases hz : szOk xs.length = true
  · rw [if_pos hz] at q1
    exact ⟨by rw [← r1.length]; exact sz_le hz, fun p hp => rv_lst sf1 r1 hp fun v' W' l ok => q1 W' l v' ok⟩
  · rw [if_neg hz] at q1
    exact q1.elim

theorem kt_type {K : PySem.W.Frag} {a : Addr} {vs : List V} {H : Hp} (h : KT K a vs) : TyX K H (.ref a) (.type "tuple") := by
  rcases h with h | h
  · rcases h with h | ⟨_, h⟩ <;> cases h
  · obtain ⟨o, its, n, h1, h2, _⟩ := h
    exact .kTuple h1 h2
/-- the type of a tree -/
def tyD (G : GS) (st : Sto) : D → Option Value
  | .non => some (.type "NoneType")
  | .bl _ => some (.type "bool")
  | .int _ => some (.type "int")
  | .str _ => some (.type "str")
  | .tup _ => some (.type "tuple")
  | .kt _ => some (.type "tuple")
  | .lst _ => some (.type "list")
  | .dK _ _ => some (.type "dict")
  | .dT _ _ => some (.type "dict")
  | .obj c _ => some (.ref (G.cA c))
  | .ref n => match st[n]? with
    | some (.ins c _ _) => if (G.T.cls c).isSome then some (.ref (G.cA c)) else none
    | some (.lst _) => some (.type "list")
    | some (.dK _ _) => some (.type "dict")
    | some (.dT _ _) => some (.type "dict")
    | none => none
  | _ => none
theorem tyD_ok (hX : XOk F cl C X) {M0 : Addr → Prop} {σ : L2.St} {e : Env} {s : Sto} {W : Wd} (sf : SF F M0 σ e s W) {a : D} {v : V} {t : Value} (la : Look F.G W a v) (h : tyD F.G s a = some t) : TyX X.K W.H v t := by
  cases a with
  | non => cases h; cases la.non_inv; exact .base .non
  | bl b => cases h; cases la.bl_inv; exact .base (.bl b)
  | int b => cases h; cases la.int_inv; exact .base (.int b)
  | str b => cases h; cases la.str_inv; exact .base (.str b)
  | tup ds =>
    cases h
    unfold Look at la
    simp only [Rep] at la
    obtain ⟨a, vs, rfl, _, _, q⟩ := la
    exact .base (.tup q)
  | kt ds =>
    cases h
    unfold Look at la
    simp only [Rep] at la
    obtain ⟨a, vs, rfl, _, q⟩ := la
    rw [hX.K]
    exact kt_type q
  | lst ds =>
    cases h
    obtain ⟨a, vs, rfl, _, _, q⟩ := la
    rcases q with q | ⟨o, q⟩
    · exact .base (.lst q)
    · exact .base (.frz q)
  | dK ks ds =>
    cases h
    obtain ⟨a, vs, rfl, _, q, _⟩ := la
    exact .base (.dK q)
  | dT ks ds =>
    cases h
    obtain ⟨a, vs, rfl, _, q, _⟩ := la
    exact .base (.dT q)
  | obj c ds =>
    cases h
    obtain ⟨a, dx, vs, ci, rfl, _, hc, _, q, _⟩ := la
    exact hX.ty.ins c ci _ a dx _ hc q
  | ref n =>
    unfold Look at la
    simp only [Rep] at la
    obtain ⟨a, rfl, ra⟩ := la
    simp only [tyD] at h
    have key : ∀ o, s[n]? = some o → Shows F.G W a o := fun o e => by
      obtain ⟨a', e1, e2, _⟩ := sf.sto n o e
      rw [ra] at e1
      cases e1
      exact e2
    split at h
    · rename_i c ns ds e1
      split at h
      · rename_i q
        cases h
        obtain ⟨ci, hc⟩ := Option.isSome_iff_exists.mp q
        obtain ⟨dx, vs, e2, _⟩ := key _ e1
        exact hX.ty.ins c ci _ a dx _ hc e2
      · cases h
    · rename_i ds e1
      cases h
      obtain ⟨vs, e2, _⟩ := key _ e1
      exact .base (.lst e2)
    · rename_i ks ds e1
      cases h
      obtain ⟨vs, e2, _⟩ := key _ e1
      exact .base (.dK e2)
    · rename_i ks ds e1
      cases h
      obtain ⟨vs, e2, _⟩ := key _ e1
      exact .base (.dT e2)
    · cases h
  | kl x => cases h
  | kd x => cases h
  | g x => cases h
  | ty n => cases h
theorem isC_ok (hX : XOk F cl C X) {s : Sto} {t : Nat} {a : D} {b : Bool} (h : isClass F.G.T s t a = some b) (ho : ∀ c ds, a = .obj c ds → (F.G.T.cls c).isSome = true) : (F.G.T.cls t).isSome = true ∧ ∃ u, tyD F.G s a = some u ∧ PySem.W.kitOne X.K u (.ref (F.G.cA t)) = some b := by
  have sml : ∀ n ∈ tyNames, (if (F.G.T.cls t).isSome = true then some false else none) = some b → (F.G.T.cls t).isSome = true ∧ PySem.W.kitOne X.K (.type n) (.ref (F.G.cA t)) = some b := fun n hn z => by
    split at z
    · rename_i q
      cases z
      obtain ⟨cj, hc⟩ := Option.isSome_iff_exists.mp q
      exact ⟨q, hX.ty.bt t cj hc n hn⟩
    · cases z
  cases a with
  | non => obtain ⟨q1, q2⟩ := sml "NoneType" (by decide) h; exact ⟨q1, _, rfl, q2⟩
  | bl b => obtain ⟨q1, q2⟩ := sml "bool" (by decide) h; exact ⟨q1, _, rfl, q2⟩
  | int b => obtain ⟨q1, q2⟩ := sml "int" (by decide) h; exact ⟨q1, _, rfl, q2⟩
  | str b => obtain ⟨q1, q2⟩ := sml "str" (by decide) h; exact ⟨q1, _, rfl, q2⟩
  | tup b => obtain ⟨q1, q2⟩ := sml "tuple" (by decide) h; exact ⟨q1, _, rfl, q2⟩
  | kt b => obtain ⟨q1, q2⟩ := sml "tuple" (by decide) h; exact ⟨q1, _, rfl, q2⟩
  | lst b => obtain ⟨q1, q2⟩ := sml "list" (by decide) h; exact ⟨q1, _, rfl, q2⟩
  | dK k b => obtain ⟨q1, q2⟩ := sml "dict" (by decide) h; exact ⟨q1, _, rfl, q2⟩
  | dT k b => obtain ⟨q1, q2⟩ := sml "dict" (by decide) h; exact ⟨q1, _, rfl, q2⟩
  | obj c ds =>
    simp only [isClass] at h
    split at h
    · rename_i q
      cases h
      obtain ⟨cj, hc⟩ := Option.isSome_iff_exists.mp q
      obtain ⟨ci, hci⟩ := Option.isSome_iff_exists.mp (ho c ds rfl)
      exact ⟨q, _, rfl, hX.ty.own c t ci cj hci hc⟩
    · cases h
  | ref n =>
    simp only [isClass] at h
    simp only [tyD]
    split at h
    · rename_i c ns ds e1
      split at h
      · rename_i q
        rw [Bool.and_eq_true] at q
        cases h
        obtain ⟨cj, hc⟩ := Option.isSome_iff_exists.mp q.1
        obtain ⟨ci, hci⟩ := Option.isSome_iff_exists.mp q.2
        exact ⟨q.1, _, by rw [e1]; dsimp only; rw [if_pos q.2], hX.ty.own c t ci cj hci hc⟩
      · cases h
    · rename_i o no e1
      rw [e1]
      cases o with
      | lst ds => obtain ⟨q1, q2⟩ := sml "list" (by decide) h; exact ⟨q1, _, rfl, q2⟩
      | dK ks ds => obtain ⟨q1, q2⟩ := sml "dict" (by decide) h; exact ⟨q1, _, rfl, q2⟩
      | dT ks ds => obtain ⟨q1, q2⟩ := sml "dict" (by decide) h; exact ⟨q1, _, rfl, q2⟩
      | ins c ns ds => exact absurd rfl (no c ns ds)
    · cases h
  | kl x => cases h
  | kd x => cases h
  | g x => cases h
  | ty n => cases h
theorem boot_isi : bootBuiltins "isinstance" = some (.builtin "isinstance") := by decide +kernel
theorem s_isi (hX : XOk F cl C X) {t : Nat} {g : Env → Sto → RS D} {f c : Str} {p p2 : Pos} (ha : PE X x (tLk F g)) (st : starEach (x :: [.Name c p2]) X.env = (false, eval x X.env) :: starEach [.Name c p2] X.env)
    (hf : f = ("isinstance" : Str)) (hg : gloB C.sc f = true) (hc : C.nm t = c) (hgc : gloB C.sc c = true) (hT : C.cl t = true) :
    PE X (.Call (.Name f p) [x, .Name c p2] [] pos) (tV F fun e s => (g e s).bind fun a s => RS.ofO ((isClass F.G.T s t a).map fun b => .val (.bl b)) s) := by
  subst hf
  obtain ⟨g1, g2, g3⟩ := glo_of hX hg
  obtain ⟨c1, c2, c3⟩ := glo_of hX hgc
  obtain ⟨cj, hcj⟩ := Option.isSome_iff_exists.mp (hX.ck t hT)
  have m := hX.ty.nm t cj hcj
  rw [← hX.nm, hc] at m
  refine PE_imp (pe_callB call_isi g1 hX.mg.isi boot_isi (pa_cons ha (pa_cons (pe_glob (v := .ref (F.G.cA t)) c1 m rfl c2) pa_nil rfl) st) (by decide) (by decide) st rfl) fun σ H Q ⟨M0, e, s, W, eW, sf, q⟩ => ?_
  refine ⟨M0, e, s, W, eW, sf, Pk.thn q fun a s1 W1 l1 q1 v sf1 la => ?_⟩
  obtain ⟨r, e1, q1⟩ := q1.ofO
  simp only [Option.map_eq_some_iff] at e1
  obtain ⟨b, e1, rfl⟩ := e1
  obtain ⟨_, u, e2, e3⟩ := isC_ok hX e1 (fun c' ds z => by
    subst z
    obtain ⟨_, _, _, ci, _, _, hci, _⟩ := la
    rw [hci]
    rfl)
  exact ⟨v, .ref (F.G.cA t), u, .ref (F.G.cA t), b, rfl, .own _, tyD_ok hX sf1 la e2, e3, q1.ok sf1 _ ⟨sf1, rep_bl⟩⟩
theorem kit_in {K : PySem.W.Frag} {a b : String} {r : Bool} (h : kitB a b = some r) : PySem.W.kitOne K (.type a) (.type b) = some r := kit_ty h
theorem isT_ok (hX : XOk F cl C X) {s : Sto} {t : String} {a : D} {b : Bool} (h : isTyD t a = some b) (ho : ∀ c ds, a = .obj c ds → (F.G.T.cls c).isSome = true) : ∃ u, tyD F.G s a = some u ∧ PySem.W.kitOne X.K u (.type t) = some b ∧ (t = "int" ∨ t = "bool" ∨ t = "str" ∨ t = "tuple") := by
  have no4 : (if t = "bool" ∨ t = "int" ∨ t = "str" ∨ t = "tuple" then some false else none) = some b → (t = "bool" ∨ t = "int" ∨ t = "str" ∨ t = "tuple") ∧ b = false := fun z => by
    split at z
    · cases z; exact ⟨‹_›, rfl⟩
    · cases z
  cases a with
  | int i =>
    simp only [isTyD] at h
    split at h
    · rename_i q; subst q; cases h; exact ⟨_, rfl, kit_in (by decide +kernel), .inl rfl⟩
    · split at h
      · rename_i q
        cases h
        rcases q with rfl | rfl | rfl
        · exact ⟨_, rfl, kit_in (by decide +kernel), .inr (.inl rfl)⟩
        · exact ⟨_, rfl, kit_in (by decide +kernel), .inr (.inr (.inl rfl))⟩
        · exact ⟨_, rfl, kit_in (by decide +kernel), .inr (.inr (.inr rfl))⟩
      · cases h
  | bl i =>
    simp only [isTyD] at h
    split at h
    · rename_i q
      cases h
      rcases q with rfl | rfl
      · exact ⟨_, rfl, kit_in (by decide +kernel), .inl rfl⟩
      · exact ⟨_, rfl, kit_in (by decide +kernel), .inr (.inl rfl)⟩
    · split at h
      · rename_i q
        cases h
        rcases q with rfl | rfl
        · exact ⟨_, rfl, kit_in (by decide +kernel), .inr (.inr (.inl rfl))⟩
        · exact ⟨_, rfl, kit_in (by decide +kernel), .inr (.inr (.inr rfl))⟩
      · cases h
  | str i =>
    simp only [isTyD] at h
    split at h
    · rename_i q; subst q; cases h; exact ⟨_, rfl, kit_in (by decide +kernel), .inr (.inr (.inl rfl))⟩
    · split at h
      · rename_i q
        cases h
        rcases q with rfl | rfl | rfl
        · exact ⟨_, rfl, kit_in (by decide +kernel), .inr (.inl rfl)⟩
        · exact ⟨_, rfl, kit_in (by decide +kernel), .inl rfl⟩
        · exact ⟨_, rfl, kit_in (by decide +kernel), .inr (.inr (.inr rfl))⟩
      · cases h
  | tup i =>
    simp only [isTyD] at h
    split at h
    · rename_i q; subst q; cases h; exact ⟨_, rfl, kit_in (by decide +kernel), .inr (.inr (.inr rfl))⟩
    · split at h
      · rename_i q
        cases h
        rcases q with rfl | rfl | rfl
        · exact ⟨_, rfl, kit_in (by decide +kernel), .inr (.inl rfl)⟩
        · exact ⟨_, rfl, kit_in (by decide +kernel), .inl rfl⟩
        · exact ⟨_, rfl, kit_in (by decide +kernel), .inr (.inr (.inl rfl))⟩
      · cases h
  | kt i =>
    simp only [isTyD] at h
    split at h
    · rename_i q; subst q; cases h; exact ⟨_, rfl, kit_in (by decide +kernel), .inr (.inr (.inr rfl))⟩
    · split at h
      · rename_i q
        cases h
        rcases q with rfl | rfl | rfl
        · exact ⟨_, rfl, kit_in (by decide +kernel), .inr (.inl rfl)⟩
        · exact ⟨_, rfl, kit_in (by decide +kernel), .inl rfl⟩
        · exact ⟨_, rfl, kit_in (by decide +kernel), .inr (.inr (.inl rfl))⟩
      · cases h
  | non =>
    obtain ⟨q, rfl⟩ := no4 h
    rcases q with rfl | rfl | rfl | rfl
    · exact ⟨_, rfl, kit_in (by decide +kernel), .inr (.inl rfl)⟩
    · exact ⟨_, rfl, kit_in (by decide +kernel), .inl rfl⟩
    · exact ⟨_, rfl, kit_in (by decide +kernel), .inr (.inr (.inl rfl))⟩
    · exact ⟨_, rfl, kit_in (by decide +kernel), .inr (.inr (.inr rfl))⟩
  | lst ds =>
    obtain ⟨q, rfl⟩ := no4 h
    rcases q with rfl | rfl | rfl | rfl
    · exact ⟨_, rfl, kit_in (by decide +kernel), .inr (.inl rfl)⟩
    · exact ⟨_, rfl, kit_in (by decide +kernel), .inl rfl⟩
    · exact ⟨_, rfl, kit_in (by decide +kernel), .inr (.inr (.inl rfl))⟩
    · exact ⟨_, rfl, kit_in (by decide +kernel), .inr (.inr (.inr rfl))⟩
  | dK ks ds =>
    obtain ⟨q, rfl⟩ := no4 h
    rcases q with rfl | rfl | rfl | rfl
    · exact ⟨_, rfl, kit_in (by decide +kernel), .inr (.inl rfl)⟩
    · exact ⟨_, rfl, kit_in (by decide +kernel), .inl rfl⟩
    · exact ⟨_, rfl, kit_in (by decide +kernel), .inr (.inr (.inl rfl))⟩
    · exact ⟨_, rfl, kit_in (by decide +kernel), .inr (.inr (.inr rfl))⟩
  | dT ks ds =>
    obtain ⟨q, rfl⟩ := no4 h
    rcases q with rfl | rfl | rfl | rfl
    · exact ⟨_, rfl, kit_in (by decide +kernel), .inr (.inl rfl)⟩
    · exact ⟨_, rfl, kit_in (by decide +kernel), .inl rfl⟩
    · exact ⟨_, rfl, kit_in (by decide +kernel), .inr (.inr (.inl rfl))⟩
    · exact ⟨_, rfl, kit_in (by decide +kernel), .inr (.inr (.inr rfl))⟩
  | obj c ds =>
    obtain ⟨q, rfl⟩ := no4 h
    obtain ⟨ci, hci⟩ := Option.isSome_iff_exists.mp (ho c ds rfl)
    rcases q with rfl | rfl | rfl | rfl
    · exact ⟨_, rfl, hX.ty.tb c ci hci "bool" (by decide), .inr (.inl rfl)⟩
    · exact ⟨_, rfl, hX.ty.tb c ci hci "int" (by decide), .inl rfl⟩
    · exact ⟨_, rfl, hX.ty.tb c ci hci "str" (by decide), .inr (.inr (.inl rfl))⟩
    · exact ⟨_, rfl, hX.ty.tb c ci hci "tuple" (by decide), .inr (.inr (.inr rfl))⟩
  | ref n => cases h
  | kl x => cases h
  | kd x => cases h
  | g x => cases h
  | ty n => cases h
theorem s_isT (hX : XOk F cl C X) {t : String} {g : Env → Sto → RS D} {f c : Str} {p p2 : Pos} (ha : PE X x (tLk F g)) (st : starEach (x :: [.Name c p2]) X.env = (false, eval x X.env) :: starEach [.Name c p2] X.env)
    (hf : f = ("isinstance" : Str)) (hg : gloB C.sc f = true) (hc : Str.ofString t = c) (hgc : gloB C.sc c = true) (h4 : t = "int" ∨ t = "bool" ∨ t = "str" ∨ t = "tuple") :
    PE X (.Call (.Name f p) [x, .Name c p2] [] pos) (tV F fun e s => (g e s).bind fun a s => RS.ofO ((isTyD t a).map fun b => .val (.bl b)) s) := by
  subst hf
  subst hc
  obtain ⟨g1, g2, g3⟩ := glo_of hX hg
  obtain ⟨c1, c2, c3⟩ := glo_of hX hgc
  have ty : PE X (.Name (Str.ofString t) p2) (tC (.ty t)) := by
    rcases h4 with rfl | rfl | rfl | rfl
    · exact pe_bltn c1 (hX.mg.bi .int) (u := .type "int") (by decide +kernel) rfl c3 c2
    · exact pe_bltn c1 (hX.mg.bi .bool) (u := .type "bool") (by decide +kernel) rfl c3 c2
    · exact pe_bltn c1 (hX.mg.bi .str) (u := .type "str") (by decide +kernel) rfl c3 c2
    · exact pe_bltn c1 (hX.mg.bi .tuple) (u := .type "tuple") (by decide +kernel) rfl c3 c2
  refine PE_imp (pe_callB call_isi g1 hX.mg.isi boot_isi (pa_cons ha (pa_cons ty pa_nil rfl) st) (by decide) (by decide) st rfl) fun σ H Q ⟨M0, e, s, W, eW, sf, q⟩ => ?_
  refine ⟨M0, e, s, W, eW, sf, Pk.thn q fun a s1 W1 l1 q1 v sf1 la => ?_⟩
  obtain ⟨r, e1, q1⟩ := q1.ofO
  simp only [Option.map_eq_some_iff] at e1
  obtain ⟨b, e1, rfl⟩ := e1
  obtain ⟨u, e2, e3, _⟩ := isT_ok (s := s1) hX e1 (fun c' ds z => by
    subst z
    obtain ⟨_, _, _, ci, _, _, hci, _⟩ := la
    rw [hci]
    rfl)
  exact ⟨v, .ty t, u, .type t, b, rfl, .ty _, tyD_ok hX sf1 la e2, e3, q1.ok sf1 _ ⟨sf1, rep_bl⟩⟩
end
end Wk

set_option Elab.async false
set_option linter.all false
set_option maxRecDepth 100000
set_option maxHeartbeats 4100000
/-! Expressions, further: built-in functions, calls, attributes, subscripts. -/
namespace Wk
open PySem L2 PySem.Spec PyProof.Rows
section
variable {F : Frm} {cl : CallT} {C : Ck} {X : Cx} {x y z : Expr} {fa fb fc : Fv} {pos : Pos}
/-! ### built-in functions -/
def rBi (F : Frm) (f : Bi) : List V → Hp → VK → Prop := fun xs H Q => ∃ M0 σ e s W ds rv, W.H = H ∧ SF F M0 σ e s W ∧ Looks F.G W ds xs ∧ biD f ds = some rv ∧ ∀ v W', Le W W' → RvOk F M0 σ e s W' rv v → Q v W'.H
theorem looks1 {G : GS} {W : Wd} {a : D} {xs : List V} (h : Looks G W [a] xs) : ∃ v, xs = [v] ∧ Look G W a v := by
  cases h with | cons h1 h2 => cases h2; exact ⟨_, rfl, h1⟩
theorem looks2 {G : GS} {W : Wd} {a b : D} {xs : List V} (h : Looks G W [a, b] xs) : ∃ v w, xs = [v, w] ∧ Look G W a v ∧ Look G W b w := by
  cases h with | cons h1 h2 => cases h2 with | cons h3 h4 => cases h4; exact ⟨_, _, rfl, h1, h3⟩
theorem bi_len (hX : XOk F cl C X) : CallR X (.builtin "len") (rBi F .len) := by
  intro pins s0 σ H xs us Q I r ⟨M0, σ', e, s, W, ds, rv, eW, sf, lk, hb, k⟩
  subst eW
  match ds, hb with
  | [a], hb =>
    obtain ⟨v, rfl, la⟩ := looks1 lk
    simp only [biD] at hb
    split at hb
    case h_2 => cases hb
    rename_i n e1
    cases hb
    exact call_len pins s0 σ W.H _ us Q I r ⟨v, n, rfl, lenD_ok hX.K la e1, rv_val sf rep_int k⟩
theorem bi_abs : CallR X (.builtin "abs") (rBi F .abs) := by
  intro pins s0 σ H xs us Q I r ⟨M0, σ', e, s, W, ds, rv, eW, sf, lk, hb, k⟩
  subst eW
  match ds, hb with
  | [.int i], hb =>
    obtain ⟨v, rfl, la⟩ := looks1 lk
    cases la.int_inv
    simp only [biD, Option.some.injEq] at hb
    subst hb
    exact call_abs pins s0 σ W.H _ us Q I r ⟨i, rfl, rv_val sf rep_int k⟩
theorem bi_int : CallR X (.type "int") (rBi F .int) := by
  intro pins s0 σ H xs us Q I r ⟨M0, σ', e, s, W, ds, rv, eW, sf, lk, hb, k⟩
  subst eW
  match ds, hb with
  | [.int i], hb =>
    obtain ⟨v, rfl, la⟩ := looks1 lk
    cases la.int_inv
    simp only [biD, Option.some.injEq] at hb
    subst hb
    exact call_int1 pins s0 σ W.H _ us Q I r (.inl ⟨i, rfl, rv_val sf rep_int k⟩)
  | [.bl i], hb =>
    obtain ⟨v, rfl, la⟩ := looks1 lk
    cases la.bl_inv
    simp only [biD, Option.some.injEq] at hb
    subst hb
    exact call_int1 pins s0 σ W.H _ us Q I r (.inr ⟨i, rfl, rv_val sf rep_int k⟩)
  | [.str z], hb =>
    obtain ⟨v, rfl, la⟩ := looks1 lk
    cases la.str_inv
    simp only [biD, Option.bind_eq_some_iff] at hb
    obtain ⟨n, e1, hb⟩ := hb
    split at hb
    · cases hb
      exact call_int_str pins s0 σ W.H _ us Q I r ⟨z, n, rfl, e1, ‹_›, rv_val sf rep_int k⟩
    · cases hb
theorem bi_str : CallR X (.type "str") (rBi F .str) := by
  intro pins s0 σ H xs us Q I r ⟨M0, σ', e, s, W, ds, rv, eW, sf, lk, hb, k⟩
  subst eW
  match ds, hb with
  | [.int i], hb =>
    obtain ⟨v, rfl, la⟩ := looks1 lk
    cases la.int_inv
    simp only [biD] at hb
    split at hb
    · cases hb
      exact call_str_int pins s0 σ W.H _ us Q I r ⟨i, rfl, ‹_›, rv_val sf rep_str k⟩
    · cases hb
theorem bi_bool : CallR X (.type "bool") (rBi F .bool) := by
  intro pins s0 σ H xs us Q I r ⟨M0, σ', e, s, W, ds, rv, eW, sf, lk, hb, k⟩
  subst eW
  match ds, hb with
  | [.int i], hb =>
    obtain ⟨v, rfl, la⟩ := looks1 lk
    cases la.int_inv
    simp only [biD, Option.some.injEq] at hb
    subst hb
    exact call_bool1 pins s0 σ W.H _ us Q I r (.inl ⟨i, rfl, rv_val sf rep_bl k⟩)
  | [.bl i], hb =>
    obtain ⟨v, rfl, la⟩ := looks1 lk
    cases la.bl_inv
    simp only [biD, Option.some.injEq] at hb
    subst hb
    exact call_bool1 pins s0 σ W.H _ us Q I r (.inr ⟨i, rfl, rv_val sf rep_bl k⟩)
theorem maxL_mem : ∀ (l : List Int) (x : Int), maxL x l ∈ x :: l ∧ ∀ y ∈ x :: l, y ≤ maxL x l
  | [], x => ⟨List.mem_cons_self, fun y hy => by
    rcases List.mem_cons.mp hy with e | e
    · rw [e]; exact Int.le_refl _
    · cases e⟩
  | a :: l, x => by
    have ih := maxL_mem l (if a > x then a else x)
    have e : maxL x (a :: l) = maxL (if a > x then a else x) l := rfl
    rw [e]
    refine ⟨?_, fun y hy => ?_⟩
    · rcases List.mem_cons.mp ih.1 with h | h
      · rw [h]; split <;> simp
      · exact List.mem_cons_of_mem _ (List.mem_cons_of_mem _ h)
    · have h0 := ih.2 _ List.mem_cons_self
      generalize hm : (if a > x then a else x) = m at h0 ⊢
      rw [hm] at ih
      have hx : (a > x ∧ m = a) ∨ (¬ a > x ∧ m = x) := by
        by_cases q : a > x
        · rw [if_pos q] at hm; exact .inl ⟨q, hm.symm⟩
        · rw [if_neg q] at hm; exact .inr ⟨q, hm.symm⟩
      rcases List.mem_cons.mp hy with h | h
      · rw [h]; omega
      · rcases List.mem_cons.mp h with h | h
        · rw [h]; omega
        · exact ih.2 y (List.mem_cons_of_mem _ h)
theorem minL_mem : ∀ (l : List Int) (x : Int), minL x l ∈ x :: l ∧ ∀ y ∈ x :: l, minL x l ≤ y
  | [], x => ⟨List.mem_cons_self, fun y hy => by
    rcases List.mem_cons.mp hy with e | e
    · rw [e]; exact Int.le_refl _
    · cases e⟩
  | a :: l, x => by
    have ih := minL_mem l (if a < x then a else x)
    have e : minL x (a :: l) = minL (if a < x then a else x) l := rfl
    rw [e]
    refine ⟨?_, fun y hy => ?_⟩
    · rcases List.mem_cons.mp ih.1 with h | h
      · rw [h]; split <;> simp
      · exact List.mem_cons_of_mem _ (List.mem_cons_of_mem _ h)
    · have h0 := ih.2 _ List.mem_cons_self
      generalize hm : (if a < x then a else x) = m at h0 ⊢
      rw [hm] at ih
      have hx : (a < x ∧ m = a) ∨ (¬ a < x ∧ m = x) := by
        by_cases q : a < x
        · rw [if_pos q] at hm; exact .inl ⟨q, hm.symm⟩
        · rw [if_neg q] at hm; exact .inr ⟨q, hm.symm⟩
      rcases List.mem_cons.mp hy with h | h
      · rw [h]; omega
      · rcases List.mem_cons.mp h with h | h
        · rw [h]; omega
        · exact ih.2 y (List.mem_cons_of_mem _ h)
theorem bi_max (hX : XOk F cl C X) : CallR X (.builtin "max") (rBi F .max) := by
  intro pins s0 σ H xs us Q I r ⟨M0, σ', e, s, W, ds, rv, eW, sf, lk, hb, k⟩
  subst eW
  match ds, hb with
  | [.int i, .int j], hb =>
    obtain ⟨v, w, rfl, la, lb⟩ := looks2 lk
    cases la.int_inv; cases lb.int_inv
    simp only [biD, Option.some.injEq] at hb
    subst hb
    exact call_max2 hX.calm pins s0 σ W.H _ us Q I r ⟨i, j, rfl, rv_val sf rep_int k⟩
  | [.lst (.int i :: ds)], hb =>
    obtain ⟨v, rfl, la⟩ := looks1 lk
    simp only [biD, Option.map_eq_some_iff] at hb
    obtain ⟨is, e1, rfl⟩ := hb
    obtain ⟨a, vs, rfl, h1, h2⟩ := la.sqL
    have e2 : intsD (.int i :: ds) = some (i :: is) := by simp only [intsD, e1, Option.map_some]
    rw [h2.ints e2] at h1
    refine cr_max hX.calm pins s0 σ W.H _ us Q I r ⟨a, i :: is, rfl, .inl h1, Nat.succ_pos _, fun m hm hle => ?_⟩
    have q := maxL_mem is i
    have e3 : m = maxL i is := Int.le_antisymm (q.2 m hm) (hle _ q.1)
    rw [e3]
    exact rv_val sf rep_int k
theorem bi_min (hX : XOk F cl C X) : CallR X (.builtin "min") (rBi F .min) := by
  intro pins s0 σ H xs us Q I r ⟨M0, σ', e, s, W, ds, rv, eW, sf, lk, hb, k⟩
  subst eW
  match ds, hb with
  | [.int i, .int j], hb =>
    obtain ⟨v, w, rfl, la, lb⟩ := looks2 lk
    cases la.int_inv; cases lb.int_inv
    simp only [biD, Option.some.injEq] at hb
    subst hb
    exact call_min2 hX.calm pins s0 σ W.H _ us Q I r ⟨i, j, rfl, rv_val sf rep_int k⟩
  | [.lst (.int i :: ds)], hb =>
    obtain ⟨v, rfl, la⟩ := looks1 lk
    simp only [biD, Option.map_eq_some_iff] at hb
    obtain ⟨is, e1, rfl⟩ := hb
    obtain ⟨a, vs, rfl, h1, h2⟩ := la.sqL
    have e2 : intsD (.int i :: ds) = some (i :: is) := by simp only [intsD, e1, Option.map_some]
    rw [h2.ints e2] at h1
    refine cr_min hX.calm pins s0 σ W.H _ us Q I r ⟨a, i :: is, rfl, .inl h1, Nat.succ_pos _, fun m hm hle => ?_⟩
    have q := minL_mem is i
    have e3 : m = minL i is := Int.le_antisymm (hle _ q.1) (q.2 m hm)
    rw [e3]
    exact rv_val sf rep_int k
theorem bi_sum (hX : XOk F cl C X) : CallR X (.builtin "sum") (rBi F .sum) := by
  intro pins s0 σ H xs us Q I r ⟨M0, σ', e, s, W, ds, rv, eW, sf, lk, hb, k⟩
  subst eW
  match ds, hb with
  | [.lst ds], hb =>
    obtain ⟨v, rfl, la⟩ := looks1 lk
    simp only [biD, Option.map_eq_some_iff] at hb
    obtain ⟨is, e1, rfl⟩ := hb
    obtain ⟨a, vs, rfl, h1, h2⟩ := la.sqL
    rw [h2.ints e1] at h1
    exact cr_sum hX.calm pins s0 σ W.H _ us Q I r ⟨a, is, rfl, .inl h1, rv_val sf rep_int k⟩
theorem bi_repr (hX : XOk F cl C X) : CallR X (.builtin "repr") (rBi F .repr) := by
  intro pins s0 σ H xs us Q I r ⟨M0, σ', e, s, W, ds, rv, eW, sf, lk, hb, k⟩
  subst eW
  match ds, hb with
  | [a], hb =>
    obtain ⟨v, rfl, la⟩ := looks1 lk
    simp only [biD, Option.bind_eq_some_iff] at hb
    obtain ⟨p, e1, hb⟩ := hb
    split at hb
    · rename_i q
      obtain ⟨q1, q2, q3, q4⟩ := q
      cases hb
      cases r with
      | cons rr r0 =>
        cases r0
        rename_i u
        obtain ⟨as, rd⟩ := Dp.reads I p v u (by rw [hX.K]; exact la.dp e1) rr
        have big : (PyData.shown p).length ≤ sizeLine := Nat.le_trans (of_decide_eq_true q4) (by decide)
        have dp := SeqAt.depth_of_shaped q3
        have hu := hX.hu
        have fin : ∀ (h' : Heap) (z : Tok) (tk : Nat), (∀ b o, s0.heap.get? b = some o → h'.get? b = some o) → EP X pins σ Q (.str (PyData.shown p) z) { s0 with heap := h', toks := tk } := fun h' z tk hk => ⟨.str (PyData.shown p), W.H, I.kept hk, ⟨z, rfl⟩, rv_val sf rep_str k⟩
        have whole : ∀ {b : Addr}, u = .ref b → wpAny (model X.prog X.w) X.A (call (.builtin "repr") [u]) (EP X pins σ Q) X.xe s0 := fun {b} eu => by
          subst eu
          exact repr_of_reads' rd q1 (fun z => by rw [q2] at z; cases z) hX.gd (by omega) (fun _ _ z => z) fun h' z tk hk => fin h' z tk hk
        cases p with
        | none => cases rd; exact PySem.P.repr_of_none (by simpa only [PyData.shown] using fin s0.heap _ _ fun _ _ z => z)
        | bool b => cases rd; exact PySem.P.repr_of_bool (by simpa only [PyData.shown] using fin s0.heap _ _ fun _ _ z => z)
        | int i => cases rd; exact PySem.P.repr_of_int (by simpa [PyData.showable] using q1) (by simpa only [PyData.shown] using fin s0.heap _ _ fun _ _ z => z)
        | str y => cases rd; exact PySem.P.repr_of_str (by simpa only [PyData.shown] using fin s0.heap _ _ fun _ _ z => z) (by simpa only [PyData.shown] using big)
        | list l => cases rd; exact whole rfl
        | tuple l => cases rd; exact whole rfl
        | dict l => simp [PyData.hasDict] at q2
    · cases hb
theorem bi_any (hX : XOk F cl C X) : CallR X (.builtin "any") (rBi F .any) := by
  intro pins s0 σ H xs us Q I r ⟨M0, σ', e, s, W, ds, rv, eW, sf, lk, hb, k⟩
  subst eW
  match ds, hb with
  | [.lst ds], hb =>
    obtain ⟨v, rfl, la⟩ := looks1 lk
    simp only [biD, Option.map_eq_some_iff] at hb
    obtain ⟨is, e1, rfl⟩ := hb
    obtain ⟨a, vs, rfl, h1, h2⟩ := la.sqL
    rw [h2.bls e1] at h1
    exact cr_any hX.calm pins s0 σ W.H _ us Q I r ⟨a, is, rfl, .inl h1, rv_val sf rep_bl k⟩
theorem bi_all (hX : XOk F cl C X) : CallR X (.builtin "all") (rBi F .all) := by
  intro pins s0 σ H xs us Q I r ⟨M0, σ', e, s, W, ds, rv, eW, sf, lk, hb, k⟩
  subst eW
  match ds, hb with
  | [.lst ds], hb =>
    obtain ⟨v, rfl, la⟩ := looks1 lk
    simp only [biD, Option.map_eq_some_iff] at hb
    obtain ⟨is, e1, rfl⟩ := hb
    obtain ⟨a, vs, rfl, h1, h2⟩ := la.sqL
    rw [h2.bls e1] at h1
    exact cr_all hX.calm pins s0 σ W.H _ us Q I r ⟨a, is, rfl, .inl h1, rv_val sf rep_bl k⟩
theorem insI_perm (x : Int) : ∀ l : List Int, (insI x l).Perm (x :: l)
  | [] => .refl _
  | y :: ys => by
    unfold insI
    split
    · exact .refl _
    · exact ((insI_perm x ys).cons y).trans (.swap x y ys)
theorem sortI_perm : ∀ l : List Int, (sortI l).Perm l
  | [] => .refl _
  | x :: xs => (insI_perm x (sortI xs)).trans ((sortI_perm xs).cons x)
theorem insI_sorted (x : Int) : ∀ l : List Int, l.Pairwise (· ≤ ·) → (insI x l).Pairwise (· ≤ ·)
  | [], _ => List.pairwise_singleton _ _
  | y :: ys, h => by
    have h' := List.pairwise_cons.mp h
    unfold insI
    split
    · rename_i q
      refine List.pairwise_cons.mpr ⟨fun z hz => ?_, h⟩
      rcases List.mem_cons.mp hz with e | hz
      · rw [e]; omega
      · have := h'.1 z hz; omega
    · rename_i q
      refine List.pairwise_cons.mpr ⟨fun z hz => ?_, insI_sorted x ys h'.2⟩
      rcases List.mem_cons.mp ((insI_perm x ys).mem_iff.mp hz) with e | hz
      · rw [e]; omega
      · exact h'.1 z hz
theorem sortI_sorted : ∀ l : List Int, (sortI l).Pairwise (· ≤ ·)
  | [] => .nil
  | x :: xs => insI_sorted x _ (sortI_sorted xs)
theorem sorted_uniq {α : Type} {le : α → α → Prop} (rf : ∀ x, le x x) (anti : ∀ x y, le x y → le y x → x = y) : ∀ {l m : List α}, l.Perm m → l.Pairwise le → m.Pairwise le → l = m
  | [], m, p, _, _ => by rw [List.nil_perm.mp p]
  | x :: l, [], p, _, _ => by have := p.length_eq; simp at this
  | x :: l, y :: m, p, h, k => by
    have h' := List.pairwise_cons.mp h
    have k' := List.pairwise_cons.mp k
    have h1 : le x y := by
      rcases List.mem_cons.mp (p.mem_iff.mpr List.mem_cons_self) with e | e
      · rw [e]; exact rf x
      · exact h'.1 y e
    have h2 : le y x := by
      rcases List.mem_cons.mp (p.mem_iff.mp List.mem_cons_self) with e | e
      · rw [e]; exact rf y
      · exact k'.1 x e
    have e : x = y := anti x y h1 h2
    subst e
    rw [sorted_uniq rf anti (List.perm_cons x |>.mp p) h'.2 k'.2]
theorem sorted_uniqI {l m : List Int} (p : l.Perm m) (h : l.Pairwise (· ≤ ·)) (k : m.Pairwise (· ≤ ·)) : l = m := sorted_uniq (fun _ => Int.le_refl _) (fun _ _ => Int.le_antisymm) p h k
theorem ltP_no {a b : Int × Int} : ltP a b = false ↔ ¬ (a.1 < b.1 ∨ (a.1 = b.1 ∧ a.2 < b.2)) := by
  unfold ltP
  simp
theorem ltP_yes {a b : Int × Int} : ltP a b = true ↔ (a.1 < b.1 ∨ (a.1 = b.1 ∧ a.2 < b.2)) := by
  unfold ltP
  simp
def leP (a b : Int × Int) : Prop := ltP b a = false
theorem leP_refl (a : Int × Int) : leP a a := ltP_no.mpr (by omega)
theorem leP_anti (a b : Int × Int) (h : leP a b) (k : leP b a) : a = b := by
  have h := ltP_no.mp h
  have k := ltP_no.mp k
  have e1 : a.1 = b.1 := by omega
  have e2 : a.2 = b.2 := by omega
  exact Prod.ext e1 e2
theorem insP_perm (x : Int × Int) : ∀ l : List (Int × Int), (insP x l).Perm (x :: l)
  | [] => .refl _
  | y :: ys => by
    unfold insP
    split
    · exact .refl _
    · exact ((insP_perm x ys).cons y).trans (.swap x y ys)
theorem sortP_perm : ∀ l : List (Int × Int), (sortP l).Perm l
  | [] => .refl _
  | x :: xs => (insP_perm x (sortP xs)).trans ((sortP_perm xs).cons x)
theorem insP_sorted (x : Int × Int) : ∀ l : List (Int × Int), l.Pairwise leP → (insP x l).Pairwise leP
  | [], _ => List.pairwise_singleton _ _
  | y :: ys, h => by
    have h' := List.pairwise_cons.mp h
    unfold insP
    split
    · rename_i q
      refine List.pairwise_cons.mpr ⟨fun z hz => ?_, h⟩
      have q := ltP_yes.mp q
      rcases List.mem_cons.mp hz with e | hz
      · rw [e]; exact ltP_no.mpr (by omega)
      · have := ltP_no.mp (h'.1 z hz); exact ltP_no.mpr (by omega)
    · rename_i q
      have q := ltP_no.mp (Bool.eq_false_iff.mpr q)
      refine List.pairwise_cons.mpr ⟨fun z hz => ?_, insP_sorted x ys h'.2⟩
      rcases List.mem_cons.mp ((insP_perm x ys).mem_iff.mp hz) with e | hz
      · rw [e]; exact ltP_no.mpr (by omega)
      · exact h'.1 z hz
theorem sortP_sorted : ∀ l : List (Int × Int), (sortP l).Pairwise leP
  | [] => .nil
  | x :: xs => insP_sorted x _ (sortP_sorted xs)
/-- the pair at an address -/
def kP (H : Hp) : V → Int × Int
  | .ref t => match H t with
    | some (.tup [.int i, .int j]) => (i, j)
    | _ => (0, 0)
  | _ => (0, 0)
theorem Reps.pairs {G : GS} {W : Wd} : ∀ {ds : List D} {ps : List (Int × Int)} {vs : List V}, Reps G W ds vs → pairsD ds = some ps → vs.map (kP W.H) = ps ∧ ∀ x ∈ vs, ∃ t, x = V.ref t ∧ ¬ W.Mu t ∧ W.H t = some (.tup [.int (kP W.H x).1, .int (kP W.H x).2])
  | [], ps, _, h, e => by simp only [Reps] at h; subst h; cases e; exact ⟨rfl, nofun⟩
  | d :: ds, ps, _, h, e => by
    simp only [Reps] at h
    obtain ⟨v, r, ev, h1, h2⟩ := h
    subst ev
    unfold pairsD at e
    split at e
    · rename_i z; cases z
    · rename_i i j ds' e1
      cases e1
      simp only [Option.map_eq_some_iff] at e
      obtain ⟨js, e1, rfl⟩ := e
      obtain ⟨q1, q2⟩ := h2.pairs e1
      simp only [Rep] at h1
      obtain ⟨a, vs, rfl, r1, r2, r3⟩ := h1
      simp only [Reps] at r1
      obtain ⟨v1, t1, rfl, s1, v2, t2, rfl, s2, rfl⟩ := r1
      simp only [Rep] at s1 s2
      subst s1; subst s2
      have ek : kP W.H (.ref a) = (i, j) := by unfold kP; simp only [r3]
      refine ⟨by rw [List.map_cons, ek, q1], fun x hx => ?_⟩
      rcases List.mem_cons.mp hx with rfl | hx
      · exact ⟨a, rfl, r2, by rw [ek]; exact r3⟩
      · exact q2 x hx
    · cases e
theorem Reps.of_pairs {G : GS} {W : Wd} : ∀ {vs : List V}, (∀ x ∈ vs, ∃ t, x = V.ref t ∧ ¬ W.Mu t ∧ W.H t = some (.tup [.int (kP W.H x).1, .int (kP W.H x).2])) → Reps G W ((vs.map (kP W.H)).map fun p => .tup [.int p.1, .int p.2]) vs
  | [], _ => .nil
  | x :: xs, h => by
    obtain ⟨t, e, q1, q2⟩ := h x List.mem_cons_self
    refine .cons ?_ (Reps.of_pairs fun y hy => h y (List.mem_cons_of_mem _ hy))
    simp only [Rep]
    exact ⟨t, _, e, .cons rep_int (.cons rep_int .nil), q1, q2⟩
theorem bi_sorted : CallR X (.builtin "sorted") (rBi F .sorted) := by
  intro pins s0 σ H xs us Q I r ⟨M0, σ', e, s, W, ds, rv, eW, sf, lk, hb, k⟩
  subst eW
  match ds, hb with
  | [.lst ds], hb =>
    obtain ⟨v, rfl, la⟩ := looks1 lk
    obtain ⟨a, vs, rfl, h1, h2⟩ := la.sqL
    simp only [biD] at hb
    split at hb
    · rename_i is e1
      cases hb
      have e2 := h2.ints e1
      subst e2
      refine cr_sortedI pins s0 σ W.H _ us Q I r ⟨a, is, rfl, .inl h1, fun ns' p pm st hp => ?_⟩
      have e3 : ns' = sortI is := sorted_uniqI (pm.trans (sortI_perm is).symm) st (sortI_sorted is)
      subst e3
      exact rv_lst sf (Reps.of_ints _) hp k
    · simp only [Option.map_eq_some_iff] at hb
      obtain ⟨ps, e1, rfl⟩ := hb
      obtain ⟨q1, q2⟩ := h2.pairs e1
      refine cr_sortedPO pins s0 σ W.H _ us Q I r ⟨a, vs, kP W.H, rfl, .inl h1, fun x hx => ?_, fun ys p st sb hp => ?_⟩
      · obtain ⟨t, z1, _, z2⟩ := q2 x hx
        exact ⟨t, z1, z2⟩
      · have e3 : ys.map (kP W.H) = sortP ps := by
          refine sorted_uniq leP_refl leP_anti ?_ ?_ (sortP_sorted ps)
          · exact (sb.perm.map _).trans (by rw [q1]; exact (sortP_perm ps).symm)
          · refine List.pairwise_map.mpr (st.imp fun {u w} z => ?_)
            have z := SrtO.lexB_no.mp z
            exact ltP_no.mpr z
        rw [← e3] at k
        exact rv_lst sf (Reps.of_pairs fun x hx => q2 x (sb.perm.mem_iff.mp hx)) hp k
  | [.tup _], hb => simp [biD] at hb
theorem key_reps {ks : List Key} {G : GS} {W : Wd} : Reps G W (ks.map fun | .inl i => .int i | .inr x => .str x) (ks.map kV) := by
  induction ks with
  | nil => exact .nil
  | cons k ks ih =>
    refine .cons ?_ ih
    cases k with
    | inl i => exact rep_int
    | inr x => exact rep_str
theorem keys_repT {M0 : Addr → Prop} {σ : L2.St} {e : Env} {s : Sto} {W : Wd} (sf : SF F M0 σ e s W) : ∀ {ks : List (List Key)} {vs : List V} {bs : List Addr}, ks.length = vs.length → IsKeys W.H (ks.zip vs) bs →
    Reps F.G W (ks.map fun k => .tup (k.map fun | .inl i => .int i | .inr x => .str x)) (bs.map V.ref)
  | [], [], bs, _, h => by cases h; exact .nil
  | [], _ :: _, _, e, _ => by simp at e
  | _ :: _, [], _, e, _ => by simp at e
  | k :: ks, v :: vs, bs, e, h => by
    unfold IsKeys at h
    rw [List.zip_cons_cons] at h
    cases h with
    | cons h1 h2 =>
      refine .cons ?_ (keys_repT sf (Nat.succ.inj e) h2)
      simp only [Rep]
      exact ⟨_, _, rfl, key_reps, sf.tup h1, h1⟩
theorem bi_list (hX : XOk F cl C X) : CallR X (.type "list") (rBi F .list) := by
  intro pins s0 σ H xs us Q I r ⟨M0, σ', e, s, W, ds, rv, eW, sf, lk, hb, k⟩
  subst eW
  match ds, hb with
  | [.lst ds], hb =>
    obtain ⟨v, rfl, la⟩ := looks1 lk
    simp only [biD, Option.some.injEq] at hb
    subst hb
    obtain ⟨a, vs, rfl, h1, h2⟩ := la.sqL
    exact call_list_of pins s0 σ W.H _ us Q I r ⟨a, vs, rfl, .inl (.inl h1), fun l hl => rv_lst sf h2 hl k⟩
  | [.tup ds], hb =>
    obtain ⟨v, rfl, la⟩ := looks1 lk
    simp only [biD, Option.some.injEq] at hb
    subst hb
    obtain ⟨a, vs, rfl, h1, h2⟩ := la.sqT
    rw [← hX.K] at h1
    exact call_list_of pins s0 σ W.H _ us Q I r ⟨a, vs, rfl, .inr h1, fun l hl => rv_lst sf h2 hl k⟩
  | [.dT ks ds], hb =>
    obtain ⟨v, rfl, la⟩ := looks1 lk
    simp only [biD, Option.some.injEq] at hb
    subst hb
    obtain ⟨a, vs, rfl, _, h1, h2, h3⟩ := la
    exact call_list_dT hX.calm pins s0 σ W.H _ us Q I r ⟨a, _, rfl, .inl h1, fun p bs hp hk => rv_lst sf (keys_repT sf h2 hk) hp k⟩
  | [.dK ks ds], hb =>
    obtain ⟨v, rfl, la⟩ := looks1 lk
    simp only [biD, Option.some.injEq] at hb
    subst hb
    obtain ⟨a, vs, rfl, _, h1, h2, h3⟩ := la
    refine call_list_dK hX.calm pins s0 σ W.H _ us Q I r ⟨a, _, rfl, h1, fun q hq => rv_lst sf ?_ hq k⟩
    have e : (ks.zip vs).map (fun kv => kV kv.1) = ks.map kV := by
      rw [show (fun kv : Key × V => kV kv.1) = kV ∘ Prod.fst from rfl, ← List.map_map, List.map_fst_zip (Nat.le_of_eq h2)]
    rw [e]
    exact key_reps
theorem bi_tuple (hX : XOk F cl C X) : CallR X (.type "tuple") (rBi F .tuple) := by
  intro pins s0 σ H xs us Q I r ⟨M0, σ', e, s, W, ds, rv, eW, sf, lk, hb, k⟩
  subst eW
  match ds, hb with
  | [.lst ds], hb =>
    obtain ⟨v, rfl, la⟩ := looks1 lk
    simp only [biD, Option.some.injEq] at hb
    subst hb
    obtain ⟨a, vs, rfl, h1, h2⟩ := la.sqL
    exact call_tuple_of pins s0 σ W.H _ us Q I r ⟨a, vs, rfl, .inl ⟨.inl h1, fun l hl => rv_tup sf h2 hl k⟩⟩
  | [.tup ds], hb =>
    obtain ⟨v, rfl, la⟩ := looks1 lk
    simp only [biD, Option.some.injEq] at hb
    subst hb
    obtain ⟨a, vs, rfl, h1, h2⟩ := id la.sqT
    rw [← hX.K] at h1
    exact call_tuple_of pins s0 σ W.H _ us Q I r ⟨a, vs, rfl, .inr ⟨h1, rv_val sf (d := .tup ds) la k⟩⟩
theorem bi_divmod : CallR X (.builtin "divmod") (rBi F .divmod) := by
  intro pins s0 σ H xs us Q I r ⟨M0, σ', e, s, W, ds, rv, eW, sf, lk, hb, k⟩
  subst eW
  match ds, hb with
  | [.int i, .int j], hb =>
    obtain ⟨v, w, rfl, la, lb⟩ := looks2 lk
    cases la.int_inv; cases lb.int_inv
    simp only [biD] at hb
    split at hb
    · cases hb
      exact call_divmod pins s0 σ W.H _ us Q I r ⟨i, j, rfl, ‹_›, fun p hp => rv_tup sf (.cons rep_int (.cons rep_int .nil)) hp k⟩
    · cases hb
/-- all of them -/
theorem s_bi (hX : XOk F cl C X) {f : Bi} {n : Str} {p : Pos} {e1 : Expr} {es : List Expr} {gs : Env → Sto → RS (List D)} (ha : PA X (e1 :: es) (tBs F gs)) (hn : biN f = n) (hg : gloB C.sc n = true)
    (st : starEach (e1 :: es) X.env = (false, eval e1 X.env) :: starEach es X.env) (sa : ∀ pos, (backTo pos (starEach es X.env)).any (·.1) = false) (hf : f ≠ .range ∧ f ≠ .enum ∧ f ≠ .dict) :
    PE X (.Call (.Name n p) (e1 :: es) [] pos) (tV F fun e s => (gs e s).bind fun xs s => RS.ofO (biD f xs) s) := by
  subst hn
  obtain ⟨g1, g2, g3⟩ := glo_of hX hg
  have mg := hX.mg.bi f
  have rd : ∀ σ H Q, tV F (fun e s => (gs e s).bind fun xs s => RS.ofO (biD f xs) s) σ H Q → tCB (rBi F f) (tBs F gs) σ H Q := fun σ H Q ⟨M0, e, s, W, eW, sf, q⟩ => ⟨M0, e, s, W, eW, sf, Pk.thn q fun xs s1 W1 l1 q1 vs sf1 la => by
    obtain ⟨rv, e1, q1⟩ := q1.ofO
    exact ⟨M0, σ, e, s1, W1, xs, rv, rfl, sf1, la, e1, fun v W' l ok => q1 W' l v ok⟩⟩
  cases f with
  | len => exact PE_imp (pe_callB (bi_len hX) g1 mg (by decide +kernel) ha g3 g2 st (sa _)) rd
  | abs => exact PE_imp (pe_callB bi_abs g1 mg (by decide +kernel) ha g3 g2 st (sa _)) rd
  | int => exact PE_imp (pe_callTy bi_int g1 mg (by decide +kernel) ha g3 g2 st (sa _)) rd
  | str => exact PE_imp (pe_callTy bi_str g1 mg (by decide +kernel) ha g3 g2 st (sa _)) rd
  | bool => exact PE_imp (pe_callTy bi_bool g1 mg (by decide +kernel) ha g3 g2 st (sa _)) rd
  | min => exact PE_imp (pe_callB (bi_min hX) g1 mg (by decide +kernel) ha g3 g2 st (sa _)) rd
  | max => exact PE_imp (pe_callB (bi_max hX) g1 mg (by decide +kernel) ha g3 g2 st (sa _)) rd
  | sum => exact PE_imp (pe_callB (bi_sum hX) g1 mg (by decide +kernel) ha g3 g2 st (sa _)) rd
  | any => exact PE_imp (pe_callB (bi_any hX) g1 mg (by decide +kernel) ha g3 g2 st (sa _)) rd
  | all => exact PE_imp (pe_callB (bi_all hX) g1 mg (by decide +kernel) ha g3 g2 st (sa _)) rd
  | sorted => exact PE_imp (pe_callB bi_sorted g1 mg (by decide +kernel) ha g3 g2 st (sa _)) rd
  | list => exact PE_imp (pe_callTy (bi_list hX) g1 mg (by decide +kernel) ha g3 g2 st (sa _)) rd
  | tuple => exact PE_imp (pe_callTy (bi_tuple hX) g1 mg (by decide +kernel) ha g3 g2 st (sa _)) rd
  | divmod => exact PE_imp (pe_callB bi_divmod g1 mg (by decide +kernel) ha g3 g2 st (sa _)) rd
  | range => exact absurd rfl hf.1
  | enum => exact absurd rfl hf.2.1
  | repr => exact PE_imp (pe_callB (bi_repr hX) g1 mg (by decide +kernel) ha g3 g2 st (sa _)) rd
  | dict => exact absurd rfl hf.2.2
end
end Wk

set_option Elab.async false
set_option linter.all false
set_option maxRecDepth 100000
set_option maxHeartbeats 4100000
/-! Expressions, further: texts' methods, slices, and/or, attributes, calls. -/
namespace Wk
open PySem L2 PySem.Spec PyProof.Rows
section
variable {F : Frm} {cl : CallT} {C : Ck} {X : Cx} {x y z : Expr} {fa fb fc : Fv} {pos : Pos}
theorem abase {y : Expr} {n : Str} {env : PySem.Env} {whole : Sem Value} (h : noSup y = true) : attributeBase y n env whole = whole := by
  cases y <;> try rfl
  rename_i f args kws p
  cases f <;> try rfl
  rename_i id p'
  cases args <;> try rfl
  cases kws <;> try rfl
  exact abase_call h
/-! ### texts -/
theorem s_split {o : Expr} {g gb : Env → Sto → RS D} {ap : Pos} (ho : PE X o (tLk F g)) (ha : PE X x (tLk F gb)) (st : starEach [x] X.env = (false, eval x X.env) :: starEach [] X.env) (hs : noSup o = true) (hl : ap.endLine = pos.line) (m : Sm) (n : Str) (hn : smN m = n) :
    PE X (.Call (.Attribute o n ap) [x] [] pos) (tV F fun e s => (g e s).bind fun a s => match a with
      | .str u => (gb e s).bind fun b s => RS.ofO (smD m u b) s
      | _ => .no) := by
  have line : (ap.endLine == pos.line) = true := by rw [hl]; exact beq_self_eq_true _
  have fin : ∀ {r : V → List V → Hp → VK → Prop}, (∀ M0 σ e s W (u : Str) b rv v, SF F M0 σ e s W → Look F.G W b v → smD m u b = some rv → ∀ Q : VK, (∀ v W', Le W W' → RvOk F M0 σ e s W' rv v → Q v W'.H) → r (.str u) [v] W.H Q) →
      ∀ σ H Q, tV F (fun e s => (g e s).bind fun a s => match a with
      | .str u => (gb e s).bind fun b s => RS.ofO (smD m u b) s
      | _ => .no) σ H Q → tM1 r (tLk F g) (tLk F gb) σ H Q := by
    intro r hr σ H Q ⟨M0, e, s, W, eW, sf, q⟩
    refine ⟨M0, e, s, W, eW, sf, Pk.thn q fun a s1 W1 l1 q1 v sf1 la => ?_⟩
    cases a <;> first | exact q1.elim | skip
    rename_i u
    cases la.str_inv
    refine ⟨⟨u, rfl⟩, M0, e, s1, W1, rfl, sf1, Pk.thn q1 fun b s2 W2 l2 q2 w sf2 lb => ?_⟩
    obtain ⟨rv, e1, q2⟩ := q2.ofO
    exact hr M0 σ e s2 W2 u b rv w sf2 lb e1 Q fun v W' l ok => q2 W' l v ok
  subst hn
  cases m with
  | split =>
    refine PE_imp (pe_m1 PySem.F.slot_str_split PySem.F.type_str_split mt_split ho ha st (abase hs) line) (fin fun M0 σ e s W u b rv v sf lb h Q k => ?_)
    cases b <;> simp only [smD, reduceCtorEq] at h
    split at h
    · rename_i hz
      cases h
      cases lb.str_inv
      obtain ⟨h1, h2⟩ := bnd hz
      refine ⟨u, _, rfl, rfl, by simpa using h2, sz_lt h1, fun p hp => rv_lst sf ?_ hp k⟩
      exact Reps.of_strs _
    · cases h
  | join =>
    refine PE_imp (pe_m1 PySem.F.slot_str_join PySem.F.type_str_join mt_join ho ha st (abase hs) line) (fin fun M0 σ e s W u b rv v sf lb h Q k => ?_)
    cases b <;> simp only [smD, reduceCtorEq, Option.bind_eq_some_iff] at h
    obtain ⟨ss, e1, h⟩ := h
    split at h
    · rename_i hz
      cases h
      obtain ⟨a, vs, rfl, h1, h2⟩ := lb.sqL
      rw [h2.strs e1] at h1
      refine ⟨u, a, ss, rfl, rfl, .inl (.inl h1), Nat.le_trans (of_decide_eq_true hz) (by decide), rv_val sf rep_str k⟩
    · cases h
  | index =>
    refine PE_imp (pe_m1 PySem.F.slot_str_index PySem.F.type_str_index mt_sindex ho ha st (abase hs) line) (fin fun M0 σ e s W u b rv v sf lb h Q k => ?_)
    cases b <;> simp only [smD, reduceCtorEq] at h
    split at h
    · rename_i i r e1
      cases h
      cases lb.str_inv
      exact ⟨u, _, i, r, rfl, rfl, e1, rv_val sf rep_int k⟩
    · cases h
/-! ### slices -/
def tPo (F : Frm) (f : Env → Sto → RS (Option Int)) : TO := fun σ H Q => ∃ M0 e s W, W.H = H ∧ SF F M0 σ e s W ∧ Pk F M0 σ e W (f e s) fun d s' W' => SF F M0 σ e s' W' → Q d W'.H
theorem s_po0 : PO X none (tPo F fun _ s => .ok none s) := by
  refine ⟨fun pins s σ H Q I ⟨M0, e, s0, W, eW, sf, q⟩ => po_none.run pins s σ H Q I ?_⟩
  show Q none H
  rw [← eW]
  exact q.ok sf sf
theorem s_po1 {g : Env → Sto → RS D} (h : PE X x (tLk F g)) : PO X (some x) (tPo F fun e s => (g e s).bind fun a s => match a with | .int i => .ok (some i) s | _ => .no) := by
  refine ⟨fun pins s σ H Q I ⟨M0, e, s0, W, eW, sf, q⟩ => (po_some h).run pins s σ H Q I ⟨M0, e, s0, W, eW, sf, Pk.thn q fun a s1 W1 l1 q1 v sf1 la => ?_⟩⟩
  cases a <;> first | exact q1.elim | skip
  cases la.int_inv
  exact ⟨_, rfl, q1.ok sf1 sf1⟩
theorem sIx_le2 (n : Nat) (o : Option Int) : HT.sIx n 0 o ≤ n := HT.sIx_le _ _ (Nat.zero_le _) _
theorem cutV_reps {G : GS} {W : Wd} {ds : List D} {vs : List V} (h : Reps G W ds vs) (l u : Option Int) : Reps G W ((ds.drop (HT.sIx ds.length 0 l)).take (HT.sIx ds.length ds.length u - HT.sIx ds.length 0 l)) (cutV vs l u) := by
  unfold cutV
  rw [h.length]
  exact (h.drop _).take _
theorem s_slc (hX : XOk F cl C X) {g : Env → Sto → RS D} {lo hi : Option Expr} {p2 : Pos} {gl gh : Env → Sto → RS (Option Int)} (ha : PE X x (tLk F g)) (hl : PO X lo (tPo F gl)) (hh : PO X hi (tPo F gh)) :
    PE X (.Subscript x (.Slice lo hi none p2) pos) (tV F fun e s => (g e s).bind fun a s => (gl e s).bind fun l s => (gh e s).bind fun h s => RS.ofO (slcD a l h) s) := by
  refine PE_imp (pe_slice (SlR.or sl_list (SlR.or sl_tupA sl_str)) ha hl hh) fun σ H Q ⟨M0, e, s, W, eW, sf, q⟩ => ⟨M0, e, s, W, eW, sf, Pk.thn q fun a s1 W1 l1 q1 v sf1 la => ?_⟩
  refine ⟨M0, e, s1, W1, rfl, sf1, Pk.thn q1 fun l s2 W2 l2 q2 sf2 => ⟨M0, e, s2, W2, rfl, sf2, Pk.thn q2 fun u s3 W3 l3 q3 sf3 => ?_⟩⟩
  obtain ⟨rv, e1, q3⟩ := q3.ofO
  have la3 := (la.le l2).le l3
  have k : ∀ v' W', Le W3 W' → RvOk F M0 σ e s3 W' rv v' → Q v' W'.H := fun v' W' l' ok => q3 W' l' v' ok
  cases a <;> simp only [slcD, reduceCtorEq] at e1
  case lst ds =>
    cases e1
    obtain ⟨a, vs, rfl, h1, h2⟩ := la3.sqL
    exact .inl ⟨a, vs, rfl, .inl h1, fun p hp => rv_lst sf3 (cutV_reps h2 l u) hp k⟩
  case kl ds =>
    cases e1
    obtain ⟨a, vs, rfl, h1, h2⟩ := la3.sqKL
    rw [← hX.K] at h1
    exact .inl ⟨a, vs, rfl, h1, fun p hp => rv_lst sf3 (cutV_reps h2 l u) hp k⟩
  case tup ds =>
    cases e1
    obtain ⟨a, vs, rfl, h1, h2⟩ := _root_.id la3.sqT
    rw [← hX.K] at h1
    refine .inr (.inl ⟨a, vs, rfl, h1, fun z => ?_, fun _ p hp => rv_tup sf3 (cutV_reps h2 l u) hp k⟩)
    rw [← h2.length] at z
    refine rv_val sf3 (d := .tup ((ds.drop (HT.sIx ds.length 0 l)).take (HT.sIx ds.length ds.length u - HT.sIx ds.length 0 l))) ?_ k
    rw [z.1, z.2, List.drop_zero, Nat.sub_zero, List.take_length]
    exact la3
  case str zz =>
    split at e1
    · cases e1
      cases la3.str_inv
      exact .inr (.inr ⟨_, rfl, sz_le ‹_›, rv_val sf3 rep_str k⟩)
    · cases e1
theorem s_rev (hX : XOk F cl C X) {g : Env → Sto → RS D} {i : Int} {k : Nat} {p1 p2 p3 : Pos} (ha : PE X x (tLk F g)) (hi : i = 1) :
    PE X (.Subscript x (.Slice none none (some (.UnaryOp .USub (.Constant (.int i) k p1) p2)) p3) pos) (tV F fun e s => (g e s).bind fun a s => match a with | .lst ds => .ok (.fr (.lst ds.reverse)) s | _ => .no) := by
  subst hi
  refine PE_imp (pe_revL ha) fun σ H Q ⟨M0, e, s, W, eW, sf, q⟩ => ⟨M0, e, s, W, eW, sf, Pk.thn q fun a s1 W1 l1 q1 v sf1 la => ?_⟩
  cases a <;> first | exact q1.elim | skip
  obtain ⟨a, vs, rfl, h1, h2⟩ := la.sqL
  exact ⟨a, vs, rfl, .inl h1, fun p hp => rv_lst sf1 h2.reverse hp fun v' W' l ok => q1 W' l v' ok⟩
/-! ### and, or -/
theorem s_bo1 {op : BoolOp} {g : Env → Sto → RS D} (h : PE X x (tD F g)) : PE X (.BoolOp op [x] pos) (tD F g) := pe_one h
theorem s_bo2 {op : BoolOp} {xs : List Expr} {g gs : Env → Sto → RS D} (h : PE X x (tD F g)) (hs : PE X (.BoolOp op (y :: xs) pos) (tD F gs)) :
    PE X (.BoolOp op (x :: y :: xs) pos) (tD F fun e s => (g e s).bind fun a s => match a with | .bl c => if c = neu op then gs e s else .ok (.bl c) s | _ => .no) := by
  cases op with
  | And =>
    refine PE_imp (pe_and h hs) fun σ H Q ⟨M0, e, s, W, eW, sf, q⟩ => ⟨M0, e, s, W, eW, sf, Pk.thn q fun a s1 W1 l1 q1 v sf1 la => ?_⟩
    cases a <;> first | exact q1.elim | skip
    rename_i c
    cases la.bl_inv
    refine ⟨c, rfl, ?_⟩
    cases c with
    | true => exact ⟨M0, e, s1, W1, rfl, sf1, q1⟩
    | false => exact q1.ok sf1 _ sf1 rep_bl
  | Or =>
    refine PE_imp (pe_or h hs) fun σ H Q ⟨M0, e, s, W, eW, sf, q⟩ => ⟨M0, e, s, W, eW, sf, Pk.thn q fun a s1 W1 l1 q1 v sf1 la => ?_⟩
    cases a <;> first | exact q1.elim | skip
    rename_i c
    cases la.bl_inv
    refine ⟨c, rfl, ?_⟩
    cases c with
    | false => exact ⟨M0, e, s1, W1, rfl, sf1, q1⟩
    | true => exact q1.ok sf1 _ sf1 rep_bl
theorem s_tb1 {op : BoolOp} {f : Env → Sto → RS Bool} (h : PT X x (tT F f)) : PW X (.BoolOp op [x] pos) (tT F fun e s => (f e s).bind fun b s => if b = neu op then .ok (neu op) s else .ok b s) := by
  have k : ∀ σ H Q, tT F (fun e s => (f e s).bind fun b s => if b = neu op then .ok (neu op) s else .ok b s) σ H Q → tT F f σ H Q := fun σ H Q ⟨M0, e, s, W, eW, sf, q⟩ => ⟨M0, e, s, W, eW, sf, Pk.thn (f := fun b s => if b = neu op then RS.ok (neu op) s else .ok b s) q fun b s1 W1 l1 q1 sf1 => by
    by_cases hb : b = neu op
    · subst hb
      rw [if_pos rfl] at q1
      exact q1.ok sf1 sf1
    · rw [if_neg hb] at q1
      exact q1.ok sf1 sf1⟩
  cases op with
  | And => exact PW_imp (pw_and1 h) k
  | Or => exact PW_imp (pw_or1 h) k
theorem s_tb2 {op : BoolOp} {xs : List Expr} {f fs : Env → Sto → RS Bool} (h : PT X x (tT F f)) (hs : PW X (.BoolOp op (y :: xs) pos) (tT F fs)) :
    PW X (.BoolOp op (x :: y :: xs) pos) (tT F fun e s => (f e s).bind fun b s => if b = neu op then fs e s else .ok b s) := by
  cases op with
  | And =>
    refine PW_imp (pw_and h hs) fun σ H Q ⟨M0, e, s, W, eW, sf, q⟩ => ⟨M0, e, s, W, eW, sf, Pk.thn q fun b s1 W1 l1 q1 sf1 => ?_⟩
    cases b with
    | true => exact ⟨M0, e, s1, W1, rfl, sf1, q1⟩
    | false => exact q1.ok sf1 sf1
  | Or =>
    refine PW_imp (pw_or h hs) fun σ H Q ⟨M0, e, s, W, eW, sf, q⟩ => ⟨M0, e, s, W, eW, sf, Pk.thn q fun b s1 W1 l1 q1 sf1 => ?_⟩
    cases b with
    | false => exact ⟨M0, e, s1, W1, rfl, sf1, q1⟩
    | true => exact q1.ok sf1 sf1
theorem s_btst {op : BoolOp} {xs : List Expr} {t : TT} (h : PW X (.BoolOp op xs pos) t) : PT X (.BoolOp op xs pos) t := ⟨fun pins s σ H Q I q => h.run _ pins s σ H Q I q⟩
end
end Wk

set_option Elab.async false
set_option linter.all false
set_option maxRecDepth 100000
set_option maxHeartbeats 4100000
/-! Expressions, further: subscripts, attributes, calls. -/
namespace Wk
open PySem L2 PySem.Spec PyProof.Rows
section
variable {F : Frm} {cl : CallT} {C : Ck} {X : Cx} {x y z : Expr} {fa fb fc : Fv} {pos : Pos}
theorem plain_of {a : Ex} (h : chkE a C y = true) : PlainIx y := by
  intro o i
  cases y <;> first | rfl | skip
  all_goals (cases a <;> simp [chkE] at h)
/-- what stands in the store -/
theorem SF.at {M0 : Addr → Prop} {σ : L2.St} {e : Env} {s : Sto} {W : Wd} (sf : SF F M0 σ e s W) {n : Nat} {o : Own} {v : V} (r : Rep F.G W (.ref n) v) (h : s[n]? = some o) : ∃ a, v = .ref a ∧ W.ρ[n]? = some a ∧ Shows F.G W a o := by
  simp only [Rep] at r
  obtain ⟨a, rfl, e1⟩ := r
  obtain ⟨b, e2, e3, _⟩ := sf.sto n o h
  rw [e1] at e2
  cases e2
  exact ⟨a, rfl, e1, e3⟩
theorem op_idx (hX : XOk F cl C X) : IxR X (rTwo F (idxV F.G.T cl) (DOk F)) := by
  intro value slice pins s σ H x y v u Q I rx ry h hs
  obtain ⟨M0, σ', e, st, W, a, b, rfl, sf, la, lb, q⟩ := h
  have dict : ∀ {d : D}, ((∃ ks ds, a = .dK ks ds) ∨ ∃ ks ds, a = .dT ks ds) → idxD F.G.T a b = some d → Pk F M0 σ' e W (.ok d st) (fun r s' W' => ∀ v, DOk F M0 σ' e s' W' r v → Q v W'.H) → wpAny (model X.prog X.w) X.A (subscriptTail value slice v u) (EP X pins σ Q) X.xe s := fun {d} hd e1 q => by
    obtain ⟨l, v', rfl, g, r⟩ := dget_ok la lb e1 hd
    cases rx
    exact tail_any (dict_typeIs I g) PySem.F.slot_dict_getitem.lookup (d_getItem (by have := hX.hu; omega) I g ry fun w' s3 I3 rw' => ⟨v', W.H, I3, rw', q.ok sf _ ⟨sf, r⟩⟩) hs
  have plain : ∀ {d : D}, (∀ ks ds, a ≠ .dK ks ds) → (∀ ks ds, a ≠ .dT ks ds) → idxD F.G.T a b = some d → Pk F M0 σ' e W (.ok d st) (fun r s' W' => ∀ v, DOk F M0 σ' e s' W' r v → Q v W'.H) → wpAny (model X.prog X.w) X.A (subscriptTail value slice v u) (EP X pins σ Q) X.xe s := fun {d} n1 n2 e1 q =>
    idx_seq value slice pins s σ W.H x y v u Q I rx ry (idxD_ok hX.K hX.gl la lb e1 n1 n2 fun v' r => q.ok sf _ ⟨sf, r⟩) hs
  cases a with
  | ref n =>
    simp only [idxV] at q
    split at q
    · rename_i ds e0
      obtain ⟨d, e1, q'⟩ := q.ofO
      clear q
      obtain ⟨a, rfl, e2, vs, e3, e4⟩ := sf.at la e0
      cases b <;> simp only [idxD, reduceCtorEq] at e1
      cases lb.int_inv
      obtain ⟨w, e5, e6⟩ := atI_rep e4 e1
      exact idx_seq value slice pins s σ W.H _ _ v u Q I rx ry (.inl (.inl ⟨a, vs, _, w, rfl, rfl, .inl (.inl e3), e5, q'.ok sf _ ⟨sf, e6⟩⟩)) hs
    · rename_i c ns ds e0
      refine hX.clk.dun.idx value slice pins s σ σ' W M0 e st (.ref n) b x y v u Q I sf rx ry la lb (by simp only [clsD, e0]; rfl) ?_ hs
      simp only [idxV, e0]
      cases hr : F.G.T.meth c F.G.T.sGet with
      | none => rw [hr] at q; exact q.elim
      | some k =>
        rw [hr] at q
        dsimp only at q ⊢
        cases hz : cl k [.ref n, b] [] st with
        | ok d s1 => rw [hz] at q; exact fun W' l v sf' r => q W' l v ⟨sf', r⟩
        | ex c a s1 => rw [hz] at q; exact q
        | no => rw [hz] at q; exact q
    · exact q.elim
  | dK ks ds =>
    obtain ⟨d, e1, q⟩ := Pk.ofO (o := idxD F.G.T (.dK ks ds) b) q
    exact dict (.inl ⟨ks, ds, rfl⟩) e1 q
  | dT ks ds =>
    obtain ⟨d, e1, q⟩ := Pk.ofO (o := idxD F.G.T (.dT ks ds) b) q
    exact dict (.inr ⟨ks, ds, rfl⟩) e1 q
  | non => obtain ⟨d, e1, q⟩ := Pk.ofO (o := idxD F.G.T .non b) q; exact plain nofun nofun e1 q
  | bl i => obtain ⟨d, e1, q⟩ := Pk.ofO (o := idxD F.G.T (.bl i) b) q; exact plain nofun nofun e1 q
  | int i => obtain ⟨d, e1, q⟩ := Pk.ofO (o := idxD F.G.T (.int i) b) q; exact plain nofun nofun e1 q
  | str i => obtain ⟨d, e1, q⟩ := Pk.ofO (o := idxD F.G.T (.str i) b) q; exact plain nofun nofun e1 q
  | tup i => obtain ⟨d, e1, q⟩ := Pk.ofO (o := idxD F.G.T (.tup i) b) q; exact plain nofun nofun e1 q
  | kl i => obtain ⟨d, e1, q⟩ := Pk.ofO (o := idxD F.G.T (.kl i) b) q; exact plain nofun nofun e1 q
  | kt i => obtain ⟨d, e1, q⟩ := Pk.ofO (o := idxD F.G.T (.kt i) b) q; exact plain nofun nofun e1 q
  | lst i => obtain ⟨d, e1, q⟩ := Pk.ofO (o := idxD F.G.T (.lst i) b) q; exact plain nofun nofun e1 q
  | obj c i => obtain ⟨d, e1, q⟩ := Pk.ofO (o := idxD F.G.T (.obj c i) b) q; exact plain nofun nofun e1 q
  | kd i => obtain ⟨d, e1, q⟩ := Pk.ofO (o := idxD F.G.T (.kd i) b) q; exact plain nofun nofun e1 q
  | g i => obtain ⟨d, e1, q⟩ := Pk.ofO (o := idxD F.G.T (.g i) b) q; exact plain nofun nofun e1 q
  | ty i => obtain ⟨d, e1, q⟩ := Pk.ofO (o := idxD F.G.T (.ty i) b) q; exact plain nofun nofun e1 q
/-- g's value handed on as a value -/
theorem val_ofE {g : Env → Sto → RS D} {f : D → Sto → RS D} {σ : L2.St} {H : Hp} {Q : VK} (h : tV F (fun e s => (g e s).bind fun d s => (f d s).bind fun r s => .ok (.val r) s) σ H Q) : tV F (fun e s => ((g e s).bind f).bind fun r s => .ok (.val r) s) σ H Q := by
  obtain ⟨M0, e, s, W, eW, sf, q⟩ := h
  refine ⟨M0, e, s, W, eW, sf, ?_⟩
  dsimp only at q ⊢
  cases h1 : g e s with
  | ok a s1 => rw [h1] at q; exact q
  | ex c a s1 => rw [h1] at q; exact q
  | no => rw [h1] at q; exact q
theorem bind_assoc3 {α β γ : Type} (r : RS α) (f : α → Sto → RS β) (g : β → Sto → RS γ) : (r.bind f).bind g = r.bind fun a s => (f a s).bind g := by cases r <;> rfl
theorem s_idx (hX : XOk F cl C X) {ga gb : Env → Sto → RS D} (ha : PE X x (tLk F ga)) (hb : PE X y (tLk F gb)) (hy : PlainIx y) :
    PE X (.Subscript x y pos) (tV F fun e s => (ga e s).bind fun a s => (gb e s).bind fun b s => (idxV F.G.T cl a b s).bind fun z s => .ok (.val z) s) := by
  refine PE_imp (pe_ix (op_idx hX) ha hb hy) fun σ H Q h => two_of ?_
  have h' : tV F (fun e s => ((ga e s).bind fun a s => (gb e s).bind fun b s => idxV F.G.T cl a b s).bind fun z s => .ok (.val z) s) σ H Q := by
    obtain ⟨M0, e, s, W, eW, sf, q⟩ := h
    exact ⟨M0, e, s, W, eW, sf, by simp only [bind_assoc3] at q ⊢; exact q⟩
  exact val_of h'
/-! ### chains -/
theorem s_cmp2 (hX : XOk F cl C X) {op op' : CmpOp} {ga gb gc : Env → Sto → RS D} (ha : PE X x (tLk F ga)) (hb : PE X y (tLk F gb)) (hc : PE X z (tLk F gc)) (h4 : noSet z = true) :
    PE X (.Compare x [op, op'] [y, z] pos) (tV F fun e s => (ga e s).bind fun x s => (gb e s).bind fun y s => match cmpD F.G.T op x y with
      | some true => (gc e s).bind fun z s => RS.ofO ((cmpD F.G.T op' y z).map fun r => .val (.bl r)) s
      | some false => .ok (.val (.bl false)) s
      | none => .no) := by
  have dop : ∀ {op : CmpOp}, OpR X (compareOp op) (fun x y H Q => ∃ M0 σ' e s W a b r, W.H = H ∧ SF F M0 σ' e s W ∧ Look F.G W a x ∧ Look F.G W b y ∧ cmpD F.G.T op a b = some r ∧ Q (.bl r) W.H) := by
    intro op pins s σ H x y v u Q I rx ry h
    obtain ⟨M0, σ', e, st, W, a, b, r, rfl, sf, la, lb, e1, q⟩ := h
    exact cmpD_ok hX.K hX.gl hX.hu I rx ry la lb e1 q
  have lm : lastMarks [op, op'] [y, z] = false := by
    show behindInMarks op' z = false
    exact behind_ok h4
  refine PE_imp (pe_chain dop dop ha hb hc lm) fun σ H Q ⟨M0, e, s, W, eW, sf, q⟩ => ⟨M0, e, s, W, eW, sf, Pk.thn q fun a s1 W1 l1 q1 v sf1 la => ⟨M0, e, s1, W1, rfl, sf1, Pk.thn q1 fun b s2 W2 l2 q2 w sf2 lb => ?_⟩⟩
  cases hr : cmpD F.G.T op a b with
  | none => rw [hr] at q2; exact q2.elim
  | some r =>
    rw [hr] at q2
    refine ⟨M0, σ, e, s2, W2, a, b, r, rfl, sf2, la.le l2, lb, hr, r, rfl, ?_⟩
    cases r with
    | false =>
      rw [if_neg Bool.false_ne_true]
      exact q2.ok sf2 _ ⟨sf2, rep_bl⟩
    | true =>
      rw [if_pos rfl]
      refine ⟨M0, e, s2, W2, rfl, sf2, Pk.thn (f := fun z s => RS.ofO ((cmpD F.G.T op' b z).map fun r => Rv.val (.bl r)) s) q2 fun c s3 W3 l3 q3 v3 sf3 lc => ?_⟩
      obtain ⟨rv, e1, q3⟩ := q3.ofO
      simp only [Option.map_eq_some_iff] at e1
      obtain ⟨r, e1, rfl⟩ := e1
      exact ⟨M0, σ, e, s3, W3, b, c, r, rfl, sf3, lb.le l3, lc, e1, q3.ok sf3 _ ⟨sf3, rep_bl⟩⟩
/-! ### attributes -/
theorem findN_rep {G : GS} {W : Wd} : ∀ {ns : List Nat} {ds : List D} {vs : List V} {f : Nat} {d : D}, findN ns ds f = some d → Reps G W ds vs → ns.length = vs.length → (∀ g ∈ ns, G.T.names g = G.T.names f → g = f) →
    f ∈ ns ∧ ∃ v, ((ns.map G.T.names).zip vs).lookup (G.T.names f) = some v ∧ Rep G W d v
  | [], _, _, _, _, h, _, _, _ => by simp [findN] at h
  | k :: ns, [], _, _, _, h, _, _, _ => by simp [findN] at h
  | k :: ns, d0 :: ds, vs, f, d, h, r, e, inj => by
    simp only [Reps] at r
    obtain ⟨v, rs, rfl, r1, r2⟩ := r
    rw [List.map_cons, List.zip_cons_cons, List.lookup_cons]
    unfold findN at h
    split at h
    · rename_i q
      cases h
      subst q
      refine ⟨List.mem_cons_self, v, ?_, r1⟩
      rw [beq_self_eq_true]
    · rename_i q
      have ne : (G.T.names f == G.T.names k) = false := by
        rw [beq_eq_false_iff_ne]
        intro z
        exact q (inj k List.mem_cons_self z.symm)
      rw [ne]
      obtain ⟨m, v', e1, e2⟩ := findN_rep h r2 (Nat.succ.inj e) fun g hg => inj g (List.mem_cons_of_mem _ hg)
      exact ⟨List.mem_cons_of_mem _ m, v', e1, e2⟩
theorem lookup_none {ns : List Str} {vs : List V} {m : Str} (h : m ∉ ns) : (ns.zip vs).lookup m = none := by
  induction ns generalizing vs with
  | nil => rfl
  | cons a ns ih =>
    cases vs with
    | nil => rfl
    | cons v vs =>
      rw [List.zip_cons_cons, List.lookup_cons]
      have ne : (m == a) = false := by
        rw [beq_eq_false_iff_ne]
        rintro rfl
        exact h List.mem_cons_self
      rw [ne]
      exact ih fun z => h (List.mem_cons_of_mem _ z)
/-- an instance's field -/
theorem fld_ok (hX : XOk F cl C X) {M0 : Addr → Prop} {σ σ' : L2.St} {e : Env} {st : Sto} {W : Wd} {pins : List (Addr × Obj)} {s : Shared} {c : Nat} {ns : List Nat} {ds : List D} {a : Addr} {f : Nat} {d : D} {Q : VK} {b : Bool} (I : L2.Inv X pins σ W.H s) (sh : Shows F.G W a (.ins c ns ds)) (h : findN ns ds f = some d)
    (k : ∀ v, Rep F.G W d v → Q v W.H) : wpAny (model X.prog X.w) X.A (getAttr (.ref a) (F.G.T.names f) b) (EP X pins σ Q) X.xe s := by
  obtain ⟨dx, vs, e1, e2, e3, ci, hci, sub⟩ := sh
  obtain ⟨h1, h2⟩ := hX.clk.cls c ci hci
  obtain ⟨m, v, e4, e5⟩ := findN_rep h e3 e2 fun g hg => hX.clk.inj c ci g f hci (sub g hg)
  exact getattr_ok I e1 h1 (h2 f (sub f m)) e4 fun u s' I' ru => ⟨v, W.H, I', ru, k v e5⟩
theorem obj_shows {G : GS} {W : Wd} {c : Nat} {ds : List D} {v : V} (r : Rep G W (.obj c ds) v) : ∃ a ci, v = .ref a ∧ G.T.cls c = some ci ∧ Shows G W a (.ins c ci.flds ds) := by
  simp only [Rep] at r
  obtain ⟨a, dx, vs, ci, rfl, _, h2, _, h4, h5, h6⟩ := r
  exact ⟨a, ci, rfl, h2, dx, vs, h4, by simpa using h5, h6, ci, h2, fun f hf => hf⟩
theorem attr_ok (hX : XOk F cl C X) {M0 : Addr → Prop} {σ σ' : L2.St} {e : Env} {st : Sto} {W : Wd} {pins : List (Addr × Obj)} {s : Shared} {d : D} {x : V} {v : Value} {f : Nat} {Q : VK} {b : Bool} (I : L2.Inv X pins σ W.H s) (sf : SF F M0 σ' e st W) (rx : RelV x v) (r : Rep F.G W d x)
    (q : Pk F M0 σ' e W (attrV F.G.T cl d f st) fun d s' W' => ∀ v, SF F M0 σ' e s' W' → Rep F.G W' d v → Q v W'.H) : wpAny (model X.prog X.w) X.A (getAttr v (F.G.T.names f) b) (EP X pins σ Q) X.xe s := by
  unfold attrV at q
  split at q
  · rename_i c ds
    obtain ⟨a, ci, rfl, hci, sh⟩ := obj_shows r
    cases rx
    split at q
    · rename_i k hk
      obtain ⟨dx, vs, e1, _⟩ := _root_.id sh
      obtain ⟨d', st', ez, q⟩ := q.okO
      exact (hX.clk.prop c f k hk).2 pins s σ σ' W M0 e st st' _ d' a dx _ Q b I sf e1 r ez fun W' l v sf' r' => q W' l v sf' r'
    · obtain ⟨d', e1, q⟩ := q.ofO
      rw [hci] at e1
      exact fld_ok (M0 := M0) (σ' := σ') (e := e) (st := st) hX I sh e1 fun v r => q.ok sf v sf r
  · rename_i n
    split at q
    · rename_i c ns ds e0
      obtain ⟨a, rfl, e2, sh⟩ := sf.at r e0
      cases rx
      split at q
      · rename_i k hk
        obtain ⟨dx, vs, e1, _⟩ := _root_.id sh
        obtain ⟨d', st', ez, q⟩ := q.okO
        exact (hX.clk.prop c f k hk).2 pins s σ σ' W M0 e st st' _ d' a dx _ Q b I sf e1 r ez fun W' l v sf' r' => q W' l v sf' r'
      · obtain ⟨d', e1, q⟩ := q.ofO
        exact fld_ok (M0 := M0) (σ' := σ') (e := e) (st := st) hX I sh e1 fun v r => q.ok sf v sf r
    · exact q.elim
  · exact q.elim
theorem s_attr (hX : XOk F cl C X) {f : Nat} {n : Str} {g : Env → Sto → RS D} (ha : PE X x (tD F g)) (hn : C.nm f = n) (hs : noSup x = true) :
    PE X (.Attribute x n pos) (tV F fun e s => (g e s).bind fun a s => (attrV F.G.T cl a f s).bind fun r s => .ok (.val r) s) := by
  subst hn
  rw [hX.nm]
  refine ⟨fun pins s σ H Q I ⟨M0, e, s0, W, eW, sf, q⟩ => ?_⟩
  refine attr_of (abase hs) (thn (ha.run pins s σ H (fun x H1 => ∃ M0 e s W a, W.H = H1 ∧ SF F M0 σ e s W ∧ Rep F.G W a x ∧ Pk F M0 σ e W ((attrV F.G.T cl a f s).bind fun r s => .ok (.val r) s) fun r s' W' => ∀ v, RvOk F M0 σ e s' W' r v → Q v W'.H) I
    ⟨M0, e, s0, W, eW, sf, Pk.thn q fun a s1 W1 l1 q1 v sf1 la => ⟨M0, e, s1, W1, a, rfl, sf1, la, q1⟩⟩) fun v s1 ⟨x, H1, I1, r1, M0, e, s, W, a, eH, sf1, la, q1⟩ => ?_)
  subst eH
  refine attr_ok hX I1 sf1 r1 la (Pk.thn (f := fun r s => RS.ok (Rv.val r) s) q1 fun d s2 W2 l2 q2 v sf2 r2 => q2.ok sf2 v ⟨sf2, r2⟩)
/-- a name's attribute: of its own instance, or of its value -/
theorem s_attrL (hX : XOk F cl C X) {i f : Nat} {n m : Str} {p : Pos} (hm : C.nm f = n) (h : chkE (.loc i) C (.Name m p) = true) :
    PE X (.Attribute (.Name m p) n pos) (tV F fun e s => match ownFld e i f with
      | some d => .ok (.val d) s
      | none => (RS.ofO (slotD e i) s).bind fun a s => (attrV F.G.T cl a f s).bind fun r s => .ok (.val r) s) := by
  subst hm
  rw [hX.nm]
  have h0 := h
  simp only [chkE, Bool.and_eq_true, decide_eq_true_eq] at h
  obtain ⟨⟨⟨h1, h2⟩, h3⟩, h4⟩ := h
  have base := pv (X := X) (pos := p) i (x := m) (by rw [hX.N]; exact h1) (vis_of hX.sc h2) (ne_of_bne h3) (ne_of_bne h4)
  refine ⟨fun pins s σ H Q I ⟨M0, e, s0, W, eW, sf, q⟩ => ?_⟩
  subst eW
  dsimp only at q
  refine attr_of (abase rfl) ?_
  cases hf : ownFld e i f with
  | some d =>
    rw [hf] at q
    unfold ownFld at hf
    split at hf
    · rename_i c ns ds e2
      obtain ⟨a, e3, sh, _⟩ := sf.own i _ e2
      refine thn (base.run pins s σ W.H (fun x H1 => x = .ref a ∧ H1 = W.H) I ⟨_, e3, rfl, rfl⟩) fun v s1 ⟨x, H1, I1, r1, ex, eH⟩ => ?_
      subst ex; subst eH
      cases r1
      exact fld_ok (M0 := M0) (σ' := σ) (e := e) (st := s0) hX I1 sh hf fun v r => q.ok sf v ⟨sf, r⟩
    · cases hf
  | none =>
    rw [hf] at q
    have q : Pk F M0 σ e W ((RS.ofO (slotD e i) s0).bind fun a s => (attrV F.G.T cl a f s).bind fun r s => .ok (.val r) s) fun r s' W' => ∀ v, RvOk F M0 σ e s' W' r v → Q v W'.H := q
    cases hd : slotD e i with
    | none => rw [hd] at q; exact q.elim
    | some a =>
      rw [hd] at q
      simp only [RS.ofO_some, RS.bind_ok] at q
      unfold slotD at hd
      split at hd
      · rename_i d e2
        cases hd
        obtain ⟨v, e3, r3⟩ := sf.val i _ e2
        refine thn (base.run pins s σ W.H (fun x H1 => x = v ∧ H1 = W.H) I ⟨_, e3, rfl, rfl⟩) fun v s1 ⟨x, H1, I1, r1, ex, eH⟩ => ?_
        subst ex; subst eH
        refine attr_ok hX I1 sf r1 r3 (Pk.thn (f := fun r s => RS.ok (Rv.val r) s) q fun d s2 W2 l2 q2 v sf2 r2 => q2.ok sf2 v ⟨sf2, r2⟩)
      · cases hd
end
end Wk

set_option Elab.async false
set_option linter.all false
set_option maxRecDepth 100000
set_option maxHeartbeats 4100000
/-! Calls. -/
namespace Wk
open PySem L2 PySem.Spec PyProof.Rows
section
variable {F : Frm} {cl : CallT} {C : Ck} {X : Cx} {x y z : Expr} {fa fb fc : Fv} {pos : Pos}
theorem PK_nilD : PK X [] (tDs F fun _ s => .ok [] s) := PK_imp pk_nil fun σ H Q ⟨M0, e, s, W, eW, sf, q⟩ => by rw [← eW]; exact q.ok sf [] sf .nil
theorem PK_consD {kws : List Keyword} {nm : Option Str} {kp : Pos} {g : Env → Sto → RS D} {gs : Env → Sto → RS (List D)} (ha : PE X x (tD F g)) (hs : PK X kws (tDs F gs)) :
    PK X (⟨nm, x, kp⟩ :: kws) (tDs F fun e s => (g e s).bind fun a s => (gs e s).bind fun as s => .ok (a :: as) s) := by
  refine PK_imp (pk_cons ha hs) fun σ H Q ⟨M0, e, s, W, eW, sf, q⟩ => ⟨M0, e, s, W, eW, sf, Pk.thn q fun a s1 W1 l1 q1 v sf1 ra => ⟨M0, e, s1, W1, rfl, sf1, Pk.thn (f := fun as s => RS.ok (a :: as) s) q1 fun as s2 W2 l2 q2 vs sf2 ras => ?_⟩⟩
  exact q2.ok sf2 (v :: vs) sf2 (.cons (ra.le l2) ras)
theorem kw_all : ∀ {kn : List Nat} {ks : Exs} {kws : List Keyword} {C : Ck}, chkK kn ks C kws = true → ∀ (pos : Pos) (env : PySem.Env), (backToKw pos (keywordEach kws env)).all (·.1.isSome) = true ∧ (backToKw pos (keywordEach kws env)).any (·.1.isNone) = false ∧ (backToKw pos (keywordEach kws env)).filterMap (·.1) = kn.map C.nm
  | [], .nil, [], C, _, pos, env => ⟨rfl, rfl, rfl⟩
  | [], .nil, _ :: _, C, h, _, _ => by simp [chkK] at h
  | [], .cons _ _, _, C, h, _, _ => by simp [chkK] at h
  | _ :: _, .nil, _, C, h, _, _ => by simp [chkK] at h
  | _ :: _, .cons _ _, [], C, h, _, _ => by simp [chkK] at h
  | k :: kn, .cons a as, ⟨none, v, p⟩ :: kws, C, h, _, _ => by simp [chkK] at h
  | k :: kn, .cons a as, ⟨some n, v, p⟩ :: kws, C, h, pos, env => by
    simp only [chkK, Bool.and_eq_true, decide_eq_true_eq] at h
    obtain ⟨⟨h1, h2⟩, h3⟩ := h
    obtain ⟨q1, q2, q3⟩ := kw_all h3 pos env
    refine ⟨?_, ?_, ?_⟩
    · show (true && (backToKw pos (keywordEach kws env)).all (·.1.isSome)) = true
      rw [q1]
      rfl
    · show (false || (backToKw pos (keywordEach kws env)).any (·.1.isNone)) = false
      rw [q2]
      rfl
    · show n :: (backToKw pos (keywordEach kws env)).filterMap (·.1) = _
      rw [q3, List.map_cons, h1]
/-- what is called, by its address -/
theorem run_cl {key : Nat} {f : Addr} (c : ClR F cl X key f) {kn : List Nat} {M0 : Addr → Prop} {σ σ' : L2.St} {e : Env} {st : Sto} {W : Wd} {pins : List (Addr × Obj)} {s : Shared} {ds es : List D} {vs zs : List V} {us ws : List Value} {Q : VK} (I : L2.Inv X pins σ W.H s) (sf : SF F M0 σ' e st W)
    (r : Vals vs us) (rz : Vals zs ws) (hd : Reps F.G W ds vs) (he : Reps F.G W es zs) (q : Pk F M0 σ' e W (if kn.length = es.length then (cl key ds (kn.zip es) st).bind fun r s => .ok (.val r) s else .no) fun r s' W' => ∀ v, RvOk F M0 σ' e s' W' r v → Q v W'.H) :
    wpAny (model X.prog X.w) X.A (call (.ref f) us ((kn.map F.G.T.names).zip ws)) (EP X pins σ Q) X.xe s := by
  split at q
  · rename_i hl
    exact c pins s σ σ' W M0 e st ds vs us kn es zs ws Q I sf r rz hd he hl (Pk.thn (f := fun r s => RS.ok (Rv.val r) s) q fun d s2 W2 l2 q2 v sf2 r2 => q2.ok sf2 v ⟨sf2, r2⟩)
  · exact q.elim
theorem s_call (hX : XOk F cl C X) {f : Nat} {as ks : Exs} {kn : List Nat} {n : Str} {p : Pos} {xs : List Expr} {kws : List Keyword} {gs hs : Env → Sto → RS (List D)} (ha : PA X xs (tDs F gs)) (hk : PK X kws (tDs F hs))
    (h : chkE (.call f as kn ks) C (.Call (.Name n p) xs kws pos) = true) (h0 : xs = [] → ∀ e s, gs e s = .ok [] s) : PE X (.Call (.Name n p) xs kws pos) (tV F fun e s => (gs e s).bind fun xs s => (hs e s).bind fun ys s => if kn.length = ys.length then (cl f xs (kn.zip ys) s).bind fun r s => .ok (.val r) s else .no) := by
  simp only [chkE, Bool.and_eq_true, decide_eq_true_eq] at h
  obtain ⟨⟨⟨⟨h1, h2⟩, h3⟩, h4⟩, h5⟩ := h
  obtain ⟨m1, m2, m3⟩ := hX.clk.glo f (hX.kn f h1)
  obtain ⟨g1, g2, g3⟩ := glo_of hX h3
  have m1' : X.mg n = some (.ref (F.G.gA f)) := by rw [← h2, hX.nm]; exact m1
  refine ⟨fun pins s σ H Q I ⟨M0, e, s0, W, eW, sf, q⟩ => ?_⟩
  subst eW
  obtain ⟨k1, k2, k3⟩ := kw_all h5 pos X.env
  have k3' : (backToKw pos (keywordEach kws X.env)).filterMap (·.1) = kn.map F.G.T.names := by rw [k3, hX.nm]
  refine wpAny_Call_Name_kw (ld_glob I g1 m1' ?_ g2)
  cases xs with
  | nil =>
    refine PySem.W.callWith_KW0 (h₀ := X.base) I.ok.mod.kin m2 k1 ?_ (by rw [k2]; rfl)
    have q : Pk F M0 σ e W ((gs e s0).bind fun xs s => (hs e s).bind fun ys s => if kn.length = ys.length then (cl f xs (kn.zip ys) s).bind fun r s => .ok (.val r) s else .no) fun r s' W' => ∀ v, RvOk F M0 σ e s' W' r v → Q v W'.H := q
    rw [h0 rfl] at q
    refine thn (hk.run pos pins s σ W.H (fun zs H2 => ∃ s2 W2 es, W2.H = H2 ∧ SF F M0 σ e s2 W2 ∧ Reps F.G W2 es zs ∧ Pk F M0 σ e W2 (if kn.length = es.length then (cl f [] (kn.zip es) s2).bind fun r s => .ok (.val r) s else .no) fun r s' W' => ∀ v, RvOk F M0 σ e s' W' r v → Q v W'.H) I
      ⟨M0, e, s0, W, rfl, sf, Pk.thn q fun es s2 W2 l2 q2 zs sf2 rz => ⟨s2, W2, es, rfl, sf2, rz, q2⟩⟩) fun ws s2 ⟨zs, H2, I2, rz, st2, W2, es, eH, sf2, re, q2⟩ => ⟨I2.kIn, ?_⟩
    subst eH
    rw [k3']
    exact run_cl m3 I2 sf2 .nil rz .nil re q2
  | cons x xs =>
    cases as with
    | nil => simp [chkEs] at h4
    | cons a as =>
    have h4' := h4
    simp only [chkEs, Bool.and_eq_true] at h4'
    refine PySem.W.callWith_KW (h₀ := X.base) I.ok.mod.kin m2 k1 (thn (ha.run pos pins s σ W.H (fun vs H1 => ∃ st W1 ds, W1.H = H1 ∧ SF F M0 σ e st W1 ∧ Reps F.G W1 ds vs ∧ Pk F M0 σ e W1 ((hs e st).bind fun ys s => if kn.length = ys.length then (cl f ds (kn.zip ys) s).bind fun r s => .ok (.val r) s else .no) fun r s' W' => ∀ v, RvOk F M0 σ e s' W' r v → Q v W'.H) I
      ⟨M0, e, s0, W, rfl, sf, Pk.thn q fun ds s1 W1 l1 q1 vs sf1 r1 => ⟨s1, W1, ds, rfl, sf1, r1, q1⟩⟩) fun us s1 ⟨vs, H1, I1, r1, st, W1, ds, eH, sf1, r2, q1⟩ => ?_) (by rw [star_any h4 pos X.env, k2]; rfl) (star_of h4'.1 _ _)
    subst eH
    refine thn (hk.run pos pins s1 σ W1.H (fun zs H2 => ∃ s2 W2 es, W2.H = H2 ∧ SF F M0 σ e s2 W2 ∧ Reps F.G W2 ds vs ∧ Reps F.G W2 es zs ∧ Pk F M0 σ e W2 (if kn.length = es.length then (cl f ds (kn.zip es) s2).bind fun r s => .ok (.val r) s else .no) fun r s' W' => ∀ v, RvOk F M0 σ e s' W' r v → Q v W'.H) I1
      ⟨M0, e, st, W1, rfl, sf1, Pk.thn q1 fun es s2 W2 l2 q2 zs sf2 rz => ⟨s2, W2, es, rfl, sf2, r2.le l2, rz, q2⟩⟩) fun ws s2 ⟨zs, H2, I2, rz, st2, W2, es, eH, sf2, rd, re, q2⟩ => ⟨I2.kIn, ?_⟩
    subst eH
    rw [k3']
    exact run_cl m3 I2 sf2 r1 rz rd re q2
/-- the method of an instance -/
theorem meth_get (hX : XOk F cl C X) {M0 : Addr → Prop} {σ σ' : L2.St} {e : Env} {st : Sto} {W : Wd} {pins : List (Addr × Obj)} {s : Shared} {d : D} {x : V} {v : Value} {m k : Nat} {pl : Sem Bool} {Q : Value × List Value → Shared → Prop} (I : L2.Inv X pins σ W.H s) (sf : SF F M0 σ' e st W) (rx : RelV x v) (r : Rep F.G W d x)
    (hk : methD F.G.T st d m = some k) (q : PySem.W.keepIn X.K (.ref (F.G.fA k)) = true → ClR F cl X k (F.G.fA k) → Q (.ref (F.G.fA k), [v]) s) : wpAny (model X.prog X.w) X.A (getMethod v (F.G.T.names m) pl) Q X.xe s := by
  unfold methD at hk
  simp only [Option.bind_eq_some_iff] at hk
  obtain ⟨c, hc, hk⟩ := hk
  obtain ⟨k1, k2, k3, k4⟩ := hX.clk.meth c m k hk
  have fin : ∀ {ns : List Nat} {ds : List D} {a : Addr}, x = .ref a → Shows F.G W a (.ins c ns ds) → wpAny (model X.prog X.w) X.A (getMethod v (F.G.T.names m) pl) Q X.xe s := fun {ns ds a} ex sh => by
    obtain ⟨dx, vs, e1, e2, e3, ci, hci, sub⟩ := sh
    subst ex
    cases rx
    refine getmeth_ok I e1 k1 k2 (lookup_none fun z => ?_) (q k2.kp k3)
    obtain ⟨g, hg, eg⟩ := List.mem_map.mp z
    exact k4 ci hci (eg ▸ List.mem_map_of_mem (sub g hg))
  unfold clsD at hc
  split at hc
  · cases hc
    obtain ⟨a, ci, ex, _, sh⟩ := obj_shows r
    exact fin ex sh
  · rename_i n
    split at hc
    · rename_i c' ns ds e0
      cases hc
      obtain ⟨a, ex, _, sh⟩ := sf.at r e0
      exact fin ex sh
    · cases hc
  · cases hc
theorem s_meth (hX : XOk F cl C X) {o : Ex} {m : Nat} {as ks : Exs} {kn : List Nat} {n : Str} {ap : Pos} {xs : List Expr} {kws : List Keyword} {g : Env → Sto → RS D} {gs hs : Env → Sto → RS (List D)} (ho : PE X y (tD F g)) (ha : PA X xs (tDs F gs)) (hk : PK X kws (tDs F hs))
    (h : chkE (.meth o m as kn ks) C (.Call (.Attribute y n ap) xs kws pos) = true) (h0 : xs = [] → ∀ e s, gs e s = .ok [] s) :
    PE X (.Call (.Attribute y n ap) xs kws pos) (tV F fun e s => (g e s).bind fun x s => match methD F.G.T s x m with
      | some k => (gs e s).bind fun xs s => (hs e s).bind fun ys s => if kn.length = ys.length then (cl k (x :: xs) (kn.zip ys) s).bind fun r s => .ok (.val r) s else .no
      | none => .no) := by
  simp only [chkE, Bool.and_eq_true, decide_eq_true_eq] at h
  obtain ⟨⟨⟨⟨⟨⟨h1, h2⟩, h3⟩, h4⟩, h5⟩, h6⟩, h7⟩ := h
  have hn : F.G.T.names m = n := by rw [← h1, hX.nm]
  subst hn
  obtain ⟨k1, k2, k3⟩ := kw_all h4 pos X.env
  have k3' : (backToKw pos (keywordEach kws X.env)).filterMap (·.1) = kn.map F.G.T.names := by rw [k3, hX.nm]
  have star : (backTo pos (starEach xs X.env)).any (·.1) = false := star_any h3 pos X.env
  have hf : methodCallForm (xs.length + kws.length) (backTo pos (starEach xs X.env)) (backToKw pos (keywordEach kws X.env)) = true := by
    unfold methodCallForm
    have e1 : (backTo pos (starEach xs X.env)).all (fun x => !x.1) = true := by
      rw [List.all_eq_true]
      intro x hx
      have := List.any_eq_false.mp star x hx
      simpa using this
    rw [e1, k1]
    simp only [Bool.and_self, Bool.true_and]
    refine decide_eq_true ?_
    split <;> omega
  have line : (ap.endLine == pos.line) = true := by rw [h6]; exact beq_self_eq_true _
  refine ⟨fun pins s σ H Q I ⟨M0, e, s0, W, eW, sf, q⟩ => ?_⟩
  subst eW
  refine PySem.W.methodCall_KW (pl := plainOf y X.env) (thn (ho.run pins s σ W.H (fun x H1 => ∃ s1 W1 a k, W1.H = H1 ∧ SF F M0 σ e s1 W1 ∧ Rep F.G W1 a x ∧ methD F.G.T s1 a m = some k ∧ Pk F M0 σ e W1 ((gs e s1).bind fun xs s => (hs e s).bind fun ys s => if kn.length = ys.length then (cl k (a :: xs) (kn.zip ys) s).bind fun r s => .ok (.val r) s else .no)
    fun r s' W' => ∀ v, RvOk F M0 σ e s' W' r v → Q v W'.H) I ⟨M0, e, s0, W, rfl, sf, Pk.thn q fun a s1 W1 l1 q1 v sf1 ra => ?_⟩) fun v s1 ⟨x, H1, I1, rx, st1, W1, a, k, eH, sf1, ra, hk1, q1⟩ => ?_) (mcall_of (abase h5) fun ov => mcall_line hf line)
  · cases hm : methD F.G.T s1 a m with
    | none => rw [hm] at q1; exact q1.elim
    | some k => rw [hm] at q1; exact ⟨s1, W1, a, k, rfl, sf1, ra, hm, q1⟩
  subst eH
  refine meth_get hX I1 sf1 rx ra hk1 fun kp c => ?_
  cases xs with
  | nil =>
    rw [h0 rfl] at q1
    refine PySem.W.callWith_KW0 (first := [v]) (h₀ := X.base) I1.ok.mod.kin kp k1 ?_ (by rw [k2]; rfl)
    refine thn (hk.run pos pins s1 σ W1.H (fun zs H2 => ∃ s2 W2 es, W2.H = H2 ∧ SF F M0 σ e s2 W2 ∧ Reps F.G W2 [a] [x] ∧ Reps F.G W2 es zs ∧ Pk F M0 σ e W2 (if kn.length = es.length then (cl k [a] (kn.zip es) s2).bind fun r s => .ok (.val r) s else .no) fun r s' W' => ∀ v, RvOk F M0 σ e s' W' r v → Q v W'.H) I1
      ⟨M0, e, st1, W1, rfl, sf1, Pk.thn q1 fun es s2 W2 l2 q2 zs sf2 rz => ⟨s2, W2, es, rfl, sf2, .cons (ra.le l2) .nil, rz, q2⟩⟩) fun ws s2 ⟨zs, H2, I2, rz, st2, W2, es, eH, sf2, rd, re, q2⟩ => ⟨I2.kIn, ?_⟩
    subst eH
    rw [k3']
    exact run_cl c I2 sf2 (.cons rx .nil) rz rd re q2
  | cons x1 xs =>
    cases as with
    | nil => simp [chkEs] at h3
    | cons b as =>
    have h3' := h3
    simp only [chkEs, Bool.and_eq_true] at h3'
    refine PySem.W.callWith_KW (first := [v]) (h₀ := X.base) I1.ok.mod.kin kp k1 (thn (ha.run pos pins s1 σ W1.H (fun vs H1 => ∃ st W2 ds, W2.H = H1 ∧ SF F M0 σ e st W2 ∧ Reps F.G W2 (a :: ds) (x :: vs) ∧ Pk F M0 σ e W2 ((hs e st).bind fun ys s => if kn.length = ys.length then (cl k (a :: ds) (kn.zip ys) s).bind fun r s => .ok (.val r) s else .no) fun r s' W' => ∀ v, RvOk F M0 σ e s' W' r v → Q v W'.H) I1
      ⟨M0, e, st1, W1, rfl, sf1, Pk.thn q1 fun ds s2 W2 l2 q2 vs sf2 r2 => ⟨s2, W2, ds, rfl, sf2, .cons (ra.le l2) r2, q2⟩⟩) fun us s2 ⟨vs, H2, I2, r2, st2, W2, ds, eH, sf2, rd, q2⟩ => ?_) (by rw [star, k2]; rfl) (star_of h3'.1 _ _)
    subst eH
    refine thn (hk.run pos pins s2 σ W2.H (fun zs H2 => ∃ s3 W3 es, W3.H = H2 ∧ SF F M0 σ e s3 W3 ∧ Reps F.G W3 (a :: ds) (x :: vs) ∧ Reps F.G W3 es zs ∧ Pk F M0 σ e W3 (if kn.length = es.length then (cl k (a :: ds) (kn.zip es) s3).bind fun r s => .ok (.val r) s else .no) fun r s' W' => ∀ v, RvOk F M0 σ e s' W' r v → Q v W'.H) I2
      ⟨M0, e, st2, W2, rfl, sf2, Pk.thn q2 fun es s3 W3 l3 q3 zs sf3 rz => ⟨s3, W3, es, rfl, sf3, rd.le l3, rz, q3⟩⟩) fun ws s3 ⟨zs, H2, I3, rz, st3, W3, es, eH, sf3, rd, re, q3⟩ => ⟨I3.kIn, ?_⟩
    subst eH
    rw [k3']
    exact run_cl c I3 sf3 (.cons rx r2) rz rd re q3
end
end Wk

set_option Elab.async false
set_option linter.all false
set_option maxRecDepth 100000
set_option maxHeartbeats 4100000
/-! Iterables, comprehensions. -/
namespace Wk
open PySem L2 PySem.Spec PyProof.Rows
section
variable {F : Frm} {M0 : Addr → Prop} {σ σ' : L2.St} {e e' : Env} {s : Sto} {W W' W1 : Wd}
/-- other names, the same own things -/
theorem SF.env (h : SF F M0 σ e s W) (hl : e'.length = σ'.length) (ho : ∀ (i : Nat) (o : Own), e'[i]? = some (some (.own o)) ↔ e[i]? = some (some (.own o))) (hs : ∀ (i : Nat) (o : Own), e[i]? = some (some (.own o)) → σ'[i]? = σ[i]?)
    (hv : ∀ (i : Nat) (d : D), e'[i]? = some (some (.val d)) → ∃ v, σ'[i]? = some (some v) ∧ Rep F.G W d v) : SF F M0 σ' e' s W := by
  refine ⟨fun a => (h.mu a).trans (or_congr Iff.rfl (or_congr Iff.rfl ⟨?_, ?_⟩)), hl, hv, fun i o q => ?_, fun i j o o' a q q' r r' => ?_, h.stl, h.sto, h.nd, h.keep, h.m0, h.xs, h.fresh, fun i c ns ds a q r => h.ins i c ns ds a ((ho i _).mp q) ((hs i _ ((ho i _).mp q)).symm.trans r)⟩
  · rintro ⟨i, o, q1, q2⟩
    exact ⟨i, o, (ho i o).mpr q1, (hs i o q1).trans q2⟩
  · rintro ⟨i, o, q1, q2⟩
    have q := (ho i o).mp q1
    exact ⟨i, o, q, (hs i o q).symm.trans q2⟩
  · have q := (ho i o).mp q
    obtain ⟨a, z⟩ := h.own i o q
    rw [hs i o q]
    exact ⟨a, z⟩
  · have q := (ho i o).mp q
    have q' := (ho j o').mp q'
    rw [hs i o q] at r
    rw [hs j o' q'] at r'
    exact h.apart i j o o' a q q' r r'
abbrev Frm.dry (F : Frm) : Frm := { F with Wx := fun _ _ _ => False }
theorem SF.dry (h : SF F M0 σ e s W) : SF F.dry M0 σ e s W := ⟨h.mu, h.len, h.val, h.own, h.apart, h.stl, h.sto, h.nd, h.keep, h.m0, h.xs, h.fresh, h.ins⟩
theorem SF.wet (h : SF F.dry M0 σ e s W) : SF F M0 σ e s W := ⟨h.mu, h.len, h.val, h.own, h.apart, h.stl, h.sto, h.nd, h.keep, h.m0, h.xs, h.fresh, h.ins⟩
theorem SF.rho (h : SF F M0 σ e s W) {a : Addr} (m : M0 a) : a ∉ W.ρ := fun z => by
  obtain ⟨n, hn⟩ := List.getElem?_of_mem z
  have hl : n < s.length := by rw [← h.stl]; exact (List.getElem?_eq_some_iff.mp hn).1
  obtain ⟨b, e1, _, e3⟩ := h.sto n s[n] (by simp [hl])
  rw [hn] at e1
  cases e1
  exact e3 m
theorem SF.sep (h : SF F M0 σ e s W) {a : Addr} (m : M0 a) {i : Nat} {o : Own} (q1 : e[i]? = some (some (.own o))) (q2 : σ[i]? = some (some (.ref a))) : False := by
  obtain ⟨b, e1, _, e3, _⟩ := h.own i o q1
  rw [q2] at e1
  cases e1
  exact e3 m
abbrev Wd.put (W : Wd) (p : Addr) (o : HO) : Wd := ⟨W.ρ, W.Mu, upd W.H p o⟩
theorem Ls.put {p : Addr} {o : HO} (hp : W.Mu p) : Ls W (W.put p o) := ⟨List.prefix_refl _, fun a u q h => by
  show upd W.H p o a = _
  rw [upd_ne (fun z => h (by rw [z]; exact hp))]
  exact q, fun _ z => .inl z⟩
theorem Shows.put {G : GS} {p a : Addr} {o : HO} {u : Own} (hp : W.Mu p) (ne : a ≠ p) (h : Shows G W a u) : Shows G (W.put p o) a u := by
  have l : Ls W (W.put p o) := Ls.put hp
  have key : upd W.H p o a = W.H a := upd_ne ne
  cases u with
  | lst ds => obtain ⟨vs, z, r⟩ := h; exact ⟨vs, key.trans z, r.ls l⟩
  | dK ks ds => obtain ⟨vs, z, y, nd, r⟩ := h; exact ⟨vs, key.trans z, y, nd, r.ls l⟩
  | dT ks ds => obtain ⟨vs, z, y, r⟩ := h; exact ⟨vs, key.trans z, y, r.ls l⟩
  | ins c ns ds => obtain ⟨dx, vs, z, y, r, t⟩ := h; exact ⟨dx, vs, key.trans z, y, r.ls l, t⟩
/-- what nobody's name holds is written -/
theorem SF.put (h : SF F M0 σ e s W) {p : Addr} {o : HO} (hp : M0 p) (hF : F.He p = none ∨ F.Xs p) (ho : ∀ vs, o ≠ .tup vs) : SF F M0 σ e s (W.put p o) ∧ Ls W (W.put p o) := by
  have mp : W.Mu p := (h.mu p).mpr (.inl hp)
  have l : Ls W (W.put p o) := Ls.put mp
  refine ⟨⟨h.mu, h.len, fun i d q => ?_, fun i u q => ?_, h.apart, h.stl, fun n u q => ?_, h.nd, fun a u q h1 h2 => ?_, fun a z => ?_, fun a z => ?_, h.fresh, h.ins⟩, l⟩
  · obtain ⟨v, e1, e2⟩ := h.val i d q
    exact ⟨v, e1, e2.ls l⟩
  · obtain ⟨a, e1, e2, e3, e4, e5⟩ := h.own i u q
    exact ⟨a, e1, e2.put mp (fun z => e3 (by rw [z]; exact hp)), e3, e4, e5⟩
  · obtain ⟨a, e1, e2, e3⟩ := h.sto n u q
    exact ⟨a, e1, e2.put mp (fun z => e3 (by rw [z]; exact hp)), e3⟩
  · show upd W.H p o a = _
    rw [upd_ne ?_]
    · exact h.keep a u q h1 h2
    · rintro rfl
      rcases hF with z | z
      · rw [z] at q; cases q
      · exact h2 z
  · by_cases ea : a = p
    · subst ea
      exact ⟨o, upd_same, ho⟩
    · obtain ⟨u, q, q'⟩ := h.m0 a z
      exact ⟨u, by show upd W.H p o a = _; rw [upd_ne ea]; exact q, q'⟩
  · by_cases ea : a = p
    · subst ea
      exact ⟨o, upd_same⟩
    · obtain ⟨u, q⟩ := h.xs a z
      exact ⟨u, by show upd W.H p o a = _; rw [upd_ne ea]; exact q⟩
theorem Le.put (l : Le W1 W) {p : Addr} {o : HO} (hp : W1.H p = none) : Le W1 (W.put p o) :=
  ⟨l.pre, fun a u q h => by
    show upd W.H p o a = _
    rw [upd_ne (fun z => by rw [z, hp] at q; cases q)]
    exact l.keep a u q h, l.mu, l.new, l.cm⟩
/-! ### names forgotten -/
theorem wipe_len (σ : L2.St) (vs : List Nat) : (wipe σ vs).length = σ.length := wipe_length σ vs
theorem wipeE_len (e : Env) : ∀ vs : List Nat, (wipeE e vs).length = e.length
  | [] => rfl
  | v :: vs => by unfold wipeE; rw [List.length_set, wipeE_len e vs]
theorem wipe_at (σ : L2.St) : ∀ (vs : List Nat) (i : Nat), (wipe σ vs)[i]? = if i ∈ vs then (if i < σ.length then some none else none) else σ[i]?
  | [], i => by simp [wipe]
  | v :: vs, i => by
    unfold wipe
    rw [List.getElem?_set, wipe_len, wipe_at σ vs i]
    by_cases h : v = i
    · subst h
      by_cases hl : v < σ.length <;> simp [hl]
    · have h' : ¬ i = v := fun z => h z.symm
      simp [h, h']
theorem wipeE_at (e : Env) : ∀ (vs : List Nat) (i : Nat), (wipeE e vs)[i]? = if i ∈ vs then (if i < e.length then some none else none) else e[i]?
  | [], i => by simp [wipeE]
  | v :: vs, i => by
    unfold wipeE
    rw [List.getElem?_set, wipeE_len, wipeE_at e vs i]
    by_cases h : v = i
    · subst h
      by_cases hl : v < e.length <;> simp [hl]
    · have h' : ¬ i = v := fun z => h z.symm
      simp [h, h']
theorem noOwn_at {e : Env} {vs : List Nat} (h : noOwn e vs = true) {i : Nat} (hi : i ∈ vs) (o : Own) : e[i]? ≠ some (some (.own o)) := fun z => by
  have := List.all_eq_true.mp h i hi
  rw [z] at this
  cases this
theorem SF.wipe (h : SF F M0 σ e s W) {vs : List Nat} (ho : noOwn e vs = true) : SF F M0 (wipe σ vs) (wipeE e vs) s W := by
  refine h.env (by rw [wipeE_len, wipe_len, h.len]) (fun i o => ?_) (fun i o q => ?_) (fun i d q => ?_)
  · rw [wipeE_at]
    by_cases hi : i ∈ vs
    · rw [if_pos hi]
      constructor
      · intro z; split at z <;> cases z
      · intro z; exact absurd z (noOwn_at ho hi o)
    · rw [if_neg hi]
  · rw [wipe_at, if_neg fun hi => noOwn_at ho hi o q]
  · rw [wipeE_at] at q
    rw [wipe_at]
    by_cases hi : i ∈ vs
    · rw [if_pos hi] at q
      split at q <;> cases q
    · rw [if_neg hi] at q ⊢
      exact h.val i d q
/-- .. and known again -/
theorem SF.unwipe {s0 : Sto} (h : SF F M0 (L2.wipe σ vs) (wipeE e vs) s W) {M1 : Addr → Prop} (h0 : SF F M1 σ e s0 W1) (l : Le W1 W) (ho : noOwn e vs = true) : SF F M0 σ e s W := by
  refine h.env h0.len (fun i o => ?_) (fun i o q => ?_) (fun i d q => ?_)
  · rw [wipeE_at]
    by_cases hi : i ∈ vs
    · rw [if_pos hi]
      constructor
      · intro z; exact absurd z (noOwn_at ho hi o)
      · intro z; split at z <;> cases z
    · rw [if_neg hi]
  · rw [wipeE_at] at q
    rw [wipe_at]
    by_cases hi : i ∈ vs
    · rw [if_pos hi] at q
      split at q <;> cases q
    · rw [if_neg hi]
  · obtain ⟨v, e1, e2⟩ := h0.val i d q
    exact ⟨v, e1, e2.le l⟩
theorem wipe_set {σ : L2.St} {vs : List Nat} {i : Nat} {x : Option V} (h : i ∈ vs) : L2.wipe (σ.set i x) vs = L2.wipe σ vs := by
  refine List.ext_getElem? fun j => ?_
  rw [wipe_at, wipe_at, List.length_set]
  by_cases hj : j ∈ vs
  · rw [if_pos hj, if_pos hj]
  · rw [if_neg hj, if_neg hj, List.getElem?_set_ne]
    rintro rfl
    exact hj h
theorem wipeE_set {e : Env} {vs : List Nat} {i : Nat} {x : Option Sv} (h : i ∈ vs) : wipeE (e.set i x) vs = wipeE e vs := by
  refine List.ext_getElem? fun j => ?_
  rw [wipeE_at, wipeE_at, List.length_set]
  by_cases hj : j ∈ vs
  · rw [if_pos hj, if_pos hj]
  · rw [if_neg hj, if_neg hj, List.getElem?_set_ne]
    rintro rfl
    exact hj h
theorem wipe_wipe {σ : L2.St} {vs : List Nat} : L2.wipe (L2.wipe σ vs) vs = L2.wipe σ vs := by
  refine List.ext_getElem? fun j => ?_
  rw [wipe_at, wipe_at, wipe_len]
  by_cases hj : j ∈ vs
  · rw [if_pos hj, if_pos hj]
  · rw [if_neg hj, if_neg hj]
theorem wipeE_wipe {e : Env} {vs : List Nat} : wipeE (wipeE e vs) vs = wipeE e vs := by
  refine List.ext_getElem? fun j => ?_
  rw [wipeE_at, wipeE_at, wipeE_len]
  by_cases hj : j ∈ vs
  · rw [if_pos hj, if_pos hj]
  · rw [if_neg hj, if_neg hj]
/-- a name is set to a value; what it held is nobody's -/
theorem SF.set (h : SF F M0 σ e s W) {i : Nat} {d : D} {v : V} (hn : ∀ o, e[i]? ≠ some (some (.own o))) (r : Rep F.G W d v) : SF F M0 (σ.set i (some v)) (e.set i (some (.val d))) s W := by
  refine h.env (by rw [List.length_set, List.length_set, h.len]) (fun j o => ?_) (fun j o q => ?_) (fun j x q => ?_)
  · by_cases hj : i = j
    · subst hj
      rw [List.getElem?_set_self']
      constructor
      · intro z
        cases hz : e[i]? with
        | none => rw [hz] at z; cases z
        | some y => rw [hz] at z; cases z
      · intro z; exact absurd z (hn o)
    · rw [List.getElem?_set_ne hj]
  · rw [List.getElem?_set_ne]
    rintro rfl
    exact hn o q
  · by_cases hj : i = j
    · subst hj
      have hl : i < e.length := by
        rcases Nat.lt_or_ge i e.length with z | z
        · exact z
        · rw [List.getElem?_eq_none (by rw [List.length_set]; exact z)] at q; cases q
      rw [List.getElem?_set_self hl] at q
      cases q
      exact ⟨v, by rw [List.getElem?_set_self (by rw [← h.len]; exact hl)], r⟩
    · rw [List.getElem?_set_ne hj] at q ⊢
      exact h.val j x q
end
end Wk

set_option Elab.async false
set_option linter.all false
set_option maxRecDepth 100000
set_option maxHeartbeats 4100000
/-! Targets, iterables, list comprehensions. -/
namespace Wk
open PySem L2 PySem.Spec PyProof.Rows
/-! ### targets -/
def gSeq : List Nat → TGs
  | [] => gNil
  | i :: is => gCons (gName i) (gSeq is)
def gT (K : PySem.W.Frag) (t : List Nat) (tp : Bool) : TG := match tp with
  | true => gTup K t.length (gSeq t)
  | false => match t with
    | [i] => gName i
    | _ => fun _ _ _ _ => False
section
variable {X : Cx} {C : Ck} {sc : Scope}
theorem tgNm_ok (hN : X.N.Nodup) (eN : X.N = C.N) {i : Nat} {y : Expr} (h : tgNm C sc i y = true) (hl : ∀ x, sc.names.lookup x = some .local ∨ sc.names.lookup x = some .cell → Loc X.env.scope x ∧ (X.fn x = true ∨ X.env.scope.names.lookup x = some .local)) : PG X y (gName i) := by
  cases y <;> simp only [tgNm, Bool.and_eq_true, decide_eq_true_eq, Bool.false_eq_true] at h
  rename_i x p
  obtain ⟨h1, h2⟩ := h
  have hx : sc.names.lookup x = some .local ∨ sc.names.lookup x = some .cell := by
    split at h2
    · exact .inl ‹_›
    · exact .inr ‹_›
    · cases h2
  obtain ⟨q1, q2⟩ := hl x hx
  exact pg_name hN (by rw [eN]; exact h1) q1 q2
theorem tg_star : ∀ {is : List Nat} {es : List Expr} (h : tgNms C sc is es = true) (env : PySem.Env), (assignEach es env).length = is.length ∧ (assignEach es env).any (·.1) = false
  | [], [], _, _ => ⟨rfl, rfl⟩
  | [], _ :: _, h, _ => by simp [tgNms] at h
  | _ :: _, [], h, _ => by simp [tgNms] at h
  | i :: is, y :: es, h, env => by
    simp only [tgNms, Bool.and_eq_true] at h
    obtain ⟨q1, q2⟩ := tg_star h.2 env
    obtain ⟨h1, _⟩ := h
    cases y <;> simp only [tgNm, Bool.false_eq_true] at h1
    exact ⟨by show (assignEach es env).length + 1 = _; rw [q1]; rfl, q2⟩
theorem tgNms_ok (hN : X.N.Nodup) (eN : X.N = C.N) (hl : ∀ x, sc.names.lookup x = some .local ∨ sc.names.lookup x = some .cell → Loc X.env.scope x ∧ (X.fn x = true ∨ X.env.scope.names.lookup x = some .local)) : ∀ {is : List Nat} {es : List Expr}, tgNms C sc is es = true → PGs X es (gSeq is)
  | [], [], _ => pgs_nil
  | [], _ :: _, h => by simp [tgNms] at h
  | _ :: _, [], h => by simp [tgNms] at h
  | i :: is, y :: es, h => by
    simp only [tgNms, Bool.and_eq_true] at h
    refine pgs_cons (tgNm_ok hN eN h.1 hl) (tgNms_ok hN eN hl h.2) ?_
    obtain ⟨h1, _⟩ := h
    cases y <;> simp only [tgNm, Bool.false_eq_true] at h1
    rfl
theorem tg_ok (hc : X.calm = true) (hN : X.N.Nodup) (eN : X.N = C.N) {t : List Nat} {tp : Bool} {y : Expr} (h : tgOk C sc t tp y = true) (hl : ∀ x, sc.names.lookup x = some .local ∨ sc.names.lookup x = some .cell → Loc X.env.scope x ∧ (X.fn x = true ∨ X.env.scope.names.lookup x = some .local)) : PG X y (gT X.K t tp) := by
  cases tp with
  | true =>
    cases y <;> simp only [tgOk, Bool.false_eq_true] at h
    obtain ⟨q1, q2⟩ := tg_star h X.env
    exact pg_tup hc (tgNms_ok hN eN hl h) q1 (by
      rw [List.findIdx?_eq_none_iff]
      intro x hx
      have := List.any_eq_false.mp q2 x hx
      simpa using this)
  | false =>
    unfold tgOk at h
    dsimp only at h
    split at h
    · exact tgNm_ok hN eN h hl
    · cases h
end
section
variable {F : Frm} {M0 : Addr → Prop} {s : Sto} {W W' W1 : Wd}
theorem setL_ok : ∀ {t : List Nat} {ds : List D} {e e' : Env} {σ : L2.St} {xs : List V} {vs : List Nat} {Q : L2.St → Hp → Prop}, setL t ds e = some e' → (∀ i ∈ t, i ∈ vs) → noOwn e vs = true → SF F M0 σ e s W → Reps F.G W ds xs →
    (∀ σ', SF F M0 σ' e' s W → noOwn e' vs = true → wipe σ' vs = wipe σ vs → wipeE e' vs = wipeE e vs → Q σ' W.H) → gSeq t xs σ W.H Q
  | [], [], e, e', σ, xs, vs, Q, h, _, ho, sf, r, k => by
    cases h
    simp only [Reps] at r
    subst r
    exact ⟨rfl, k σ sf ho rfl rfl⟩
  | [], _ :: _, _, _, _, _, _, _, h, _, _, _, _, _ => by cases h
  | _ :: _, [], _, _, _, _, _, _, h, _, _, _, _, _ => by cases h
  | i :: is, d :: ds, e, e', σ, xs, vs, Q, h, hv, ho, sf, r, k => by
    simp only [Reps] at r
    obtain ⟨v, rs, rfl, r1, r2⟩ := r
    have hi := hv i List.mem_cons_self
    have sf2 := sf.set (i := i) (fun o => noOwn_at ho hi o) r1
    have ho2 : noOwn (e.set i (some (.val d))) vs = true := by
      refine List.all_eq_true.mpr fun j hj => ?_
      by_cases z : i = j
      · subst z
        rw [List.getElem?_set_self']
        cases e[i]? <;> rfl
      · rw [List.getElem?_set_ne z]
        exact List.all_eq_true.mp ho j hj
    refine ⟨v, rs, rfl, setL_ok (e := e.set i (some (.val d))) h (fun j hj => hv j (List.mem_cons_of_mem _ hj)) ho2 sf2 r2 fun σ' sf3 ho3 w1 w2 => ?_⟩
    exact k σ' sf3 ho3 (by rw [w1, wipe_set hi]) (by rw [w2, wipeE_set hi])
theorem setT_ok {X : Cx} (hK : X.K = F.G.K) {t : List Nat} {tp : Bool} {d : D} {e e' : Env} {σ : L2.St} {x : V} {vs : List Nat} {Q : L2.St → Hp → Prop} (h : setT t tp d e = some e') (hv : ∀ i ∈ t, i ∈ vs) (ho : noOwn e vs = true) (sf : SF F M0 σ e s W) (r : Rep F.G W d x)
    (k : ∀ σ', SF F M0 σ' e' s W → noOwn e' vs = true → wipe σ' vs = wipe σ vs → wipeE e' vs = wipeE e vs → Q σ' W.H) : gT X.K t tp x σ W.H Q := by
  cases tp with
  | true =>
    unfold setT at h
    dsimp only at h
    split at h
    · rename_i ds
      obtain ⟨a, xs, rfl, h1, h2⟩ := r.sqT
      rw [← hK] at h1
      have len : xs.length = t.length := by
        rw [← h2.length]
        clear h2 r h1
        have go : ∀ (t : List Nat) (ds : List D) (e : Env), setL t ds e = some e' → ds.length = t.length := by
          intro t
          induction t with
          | nil => intro ds e h; cases ds with | nil => rfl | cons _ _ => cases h
          | cons i is ih => intro ds e h; cases ds with | nil => cases h | cons d ds => rw [List.length_cons, List.length_cons, ih ds _ h]
        exact go t ds e h
      exact ⟨a, xs, rfl, h1, len, setL_ok h hv ho sf h2 k⟩
    · cases h
  | false =>
    unfold setT at h
    dsimp only at h
    split at h
    · rename_i i
      cases h
      have hi := hv i (by simp)
      have ho2 : noOwn (e.set i (some (.val d))) vs = true := by
        refine List.all_eq_true.mpr fun j hj => ?_
        by_cases z : i = j
        · subst z
          rw [List.getElem?_set_self']
          cases e[i]? <;> rfl
        · rw [List.getElem?_set_ne z]
          exact List.all_eq_true.mp ho j hj
      exact k _ (sf.set (fun o => noOwn_at ho hi o) r) ho2 (wipe_set hi) (wipeE_set hi)
    · cases h
end
/-! ### iterables -/
section
variable {F : Frm} {cl : CallT} {C : Ck} {X : Cx} {x y z tg : Expr} {fa fb fc : Fv} {pos : Pos}
theorem it_list {pins : List (Addr × Obj)} {s : Shared} {σ : L2.St} {H : Hp} {R : It → Hp → Prop} {a : Addr} {xs : List V} (I : L2.Inv X pins σ H s) (h : SqL X.K H a xs) (q : R (Itl X.K a) H) : wpAny (model X.prog X.w) X.A (pyIter (.ref a)) (PIE X pins σ tg R) X.xe s := by
  obtain ⟨its, rv, p, hz⟩ := I.list h
  exact wpAny_pyIter_list p.isList (pi_one (tk := s.toks) I _ (turn_list a _) ⟨_, Heap.get?_push_size _ rfl, rfl, rfl⟩ q)
theorem it_tup {pins : List (Addr × Obj)} {s : Shared} {σ : L2.St} {H : Hp} {R : It → Hp → Prop} {a : Addr} {xs : List V} (I : L2.Inv X pins σ H s) (h : SqT X.K H a xs) (q : R (Itt X.K a) H) : wpAny (model X.prog X.w) X.A (pyIter (.ref a)) (PIE X pins σ tg R) X.xe s := by
  obtain ⟨its, rv, p, hz⟩ := I.tuple h
  exact wpAny_pyIter_tuple (show s.heap.IsTuple a its.toArray from p) (pi_one (tk := s.toks) I _ (turn_tuple a _) ⟨_, Heap.get?_push_size _ rfl, rfl, rfl⟩ q)
theorem it_str {pins : List (Addr × Obj)} {s : Shared} {σ : L2.St} {H : Hp} {R : It → Hp → Prop} {z : Str} {t : Tok} (I : L2.Inv X pins σ H s) (q : R (Its z) H) : wpAny (model X.prog X.w) X.A (pyIter (.str z t)) (PIE X pins σ tg R) X.xe s := by
  cases ha : z.cps.all (· < 128)
  · exact wpAny_pyIter_wide ha (pi_one (tk := s.toks) I _ (turn_str _ z t "str_iterator" (.inr rfl)) ⟨_, Heap.get?_push_size _ rfl, rfl, rfl⟩ q)
  · exact wpAny_pyIter_ascii ha (pi_one (tk := s.toks) I _ (turn_str _ z t "str_ascii_iterator" (.inl rfl)) ⟨_, Heap.get?_push_size _ rfl, rfl, rfl⟩ q)
/-- what the loop wants of it -/
def Gives (F : Frm) (W' : Wd) (ds : List D) (J : It) : Prop := ∃ (Gs : Hp → Prop) (Y : Nat → Hp → V → Hp → Prop), Walk J ds.length Gs Y ∧ (∀ W'', Ls W' W'' → Gs W''.H) ∧
    (∀ i x W'' H' M1 σ1 e1 s1, Ls W' W'' → SF F M1 σ1 e1 s1 W'' → Y i W''.H x H' → ∃ W3, W3.H = H' ∧ Le W'' W3 ∧ SF F M1 σ1 e1 s1 W3 ∧ ∃ d, ds[i]? = some d ∧ Rep F.G W3 d x)
theorem tI_of {f : Env → Sto → RS (List D)} {σ : L2.St} {H : Hp} {R : It → Hp → Prop} (h : tI F f σ H R) : ∃ M0 e s W, W.H = H ∧ SF F M0 σ e s W ∧ Pk F M0 σ e W (f e s) fun ds s' W' => SF F M0 σ e s' W' → ∀ J, Gives F W' ds J → R J W'.H := by
  obtain ⟨M0, e, s, W, eW, sf, q⟩ := h
  refine ⟨M0, e, s, W, eW, sf, ?_⟩
  cases hf : f e s with
  | ok ds s1 =>
    rw [hf] at q
    exact fun W' l sf' J ⟨Gs, Y, w1, w2, w3⟩ => q W' l sf' J Gs Y w1 w2 w3
  | ex c a s1 => rw [hf] at q; exact q
  | no => rw [hf] at q; exact q
theorem gives_list {W : Wd} {a : Addr} {ds : List D} {vs : List V} (K : PySem.W.Frag) (m : ¬ W.Mu a) (h : Rd W.H a (.lst vs)) (r : Reps F.G W ds vs) : Gives F W ds (Itl K a) := by
  refine ⟨_, _, (by rw [r.length]; exact walk_list (K := K) (a := a) (xs := vs)), fun W'' l => (Or.inl (l.rd m h).2 : SqL K W''.H a vs), fun i x W'' H' M1 σ1 e1 s1 l sf y => ?_⟩
  obtain ⟨y1, y2⟩ := y
  obtain ⟨d, e2, e3⟩ := r.at' y2
  exact ⟨W'', y1.symm, sf.refl, sf, d, e2, e3.ls l⟩
theorem gives_klist {W : Wd} {a : Addr} {ds : List D} {vs : List V} (K : PySem.W.Frag) (h : KL K a vs) (r : Reps F.G W ds vs) : Gives F W ds (Itl K a) := by
  refine ⟨_, _, (by rw [r.length]; exact walk_list (K := K) (a := a) (xs := vs)), fun W'' l => h.any W''.H, fun i x W'' H' M1 σ1 e1 s1 l sf y => ?_⟩
  obtain ⟨y1, y2⟩ := y
  obtain ⟨d, e2, e3⟩ := r.at' y2
  exact ⟨W'', y1.symm, sf.refl, sf, d, e2, e3.ls l⟩
theorem gives_tup {W : Wd} {a : Addr} {ds : List D} {vs : List V} (K : PySem.W.Frag) (h : ∀ W'', Ls W W'' → SqT K W''.H a vs) (r : Reps F.G W ds vs) : Gives F W ds (Itt K a) := by
  refine ⟨_, _, (by rw [r.length]; exact walk_tup (K := K) (a := a) (xs := vs)), fun W'' l => h W'' l, fun i x W'' H' M1 σ1 e1 s1 l sf y => ?_⟩
  obtain ⟨y1, y2⟩ := y
  obtain ⟨d, e2, e3⟩ := r.at' y2
  exact ⟨W'', y1.symm, sf.refl, sf, d, e2, e3.ls l⟩
theorem gives_str {W : Wd} {z : Str} : Gives F W (z.cps.toList.map fun c => .str ⟨#[c]⟩) (Its z) := by
  refine ⟨_, _, (by rw [List.length_map, Array.length_toList]; exact walk_str), fun _ _ => trivial, fun i x W'' H' M1 σ1 e1 s1 l sf y => ?_⟩
  obtain ⟨y1, c, y2, rfl⟩ := y
  refine ⟨W'', y1.symm, sf.refl, sf, .str ⟨#[c]⟩, ?_, rep_str⟩
  rw [List.getElem?_map, Array.getElem?_toList, y2]
  rfl
theorem gives_range {W : Wd} {lo : Int} {n : Nat} : Gives F W (rangeD lo n) (Itr lo n) := by
  refine ⟨_, _, (by unfold rangeD; rw [List.length_map, List.length_range]; exact walk_range.mono (fun _ z => z) fun i H x H' hi _ y => (⟨hi, y⟩ : i < n ∧ YFn (fun i => .int (lo + i)) i H x H')), fun _ _ => trivial, fun i x W'' H' M1 σ1 e1 s1 l sf y => ?_⟩
  obtain ⟨hi, y1, y2⟩ := y
  subst y2
  refine ⟨W'', y1.symm, sf.refl, sf, .int (lo + (i : Nat)), ?_, rep_int⟩
  unfold rangeD
  simp [hi]
theorem iota_len : ∀ (n : Nat) (ds : List D), (iotaD n ds).length = ds.length
  | _, [] => rfl
  | n, d :: ds => by unfold iotaD; rw [List.length_cons, List.length_cons, iota_len]
theorem iota_at : ∀ (n : Nat) (ds : List D) (i : Nat) {d : D}, ds[i]? = some d → (iotaD n ds)[i]? = some (.tup [.int ((n + i : Nat) : Int), d])
  | _, [], _, _, h => by simp at h
  | n, d0 :: ds, i, d, h => by
    unfold iotaD
    cases i with
    | zero => cases h; rfl
    | succ i =>
      rw [List.getElem?_cons_succ] at h ⊢
      rw [iota_at (n + 1) ds i h]
      have : n + 1 + i = n + (i + 1) := by omega
      rw [this]
theorem gives_enum {W : Wd} {a : Addr} {ds : List D} {vs : List V} (K : PySem.W.Frag) (m : ¬ W.Mu a) (h : Rd W.H a (.lst vs)) (r : Reps F.G W ds vs) : Gives F W (iotaD 0 ds) (Ite K a) := by
  refine ⟨_, _, (by rw [iota_len, r.length]; exact walk_enum (K := K) (a := a) (xs := vs)), fun W'' l => (Or.inl (l.rd m h).2 : SqL K W''.H a vs), fun i x W'' H' M1 σ1 e1 s1 l sf y => ?_⟩
  obtain ⟨T, v, w, rfl, h1, rfl, h2, h3⟩ := y
  cases h2
  obtain ⟨d, e2, e3⟩ := r.at' h3
  obtain ⟨sf3, l3, m3⟩ := sf.lay (o := .tup [.int (i : Nat), w]) h1
  refine ⟨_, rfl, l3, sf3, .tup [.int (i : Nat), d], by have := iota_at 0 ds i e2; rwa [Nat.zero_add] at this, ?_⟩
  simp only [Rep]
  exact ⟨T, _, rfl, .cons rep_int (.cons ((e3.ls l).le l3) .nil), m3, upd_same⟩
/-- a value's items -/
theorem s_items (hX : XOk F cl C X) {g : Env → Sto → RS D} (h : PE X x (tD F g)) : PI X tg x (tI F fun e s => (g e s).bind fun d s => RS.ofO (itemsD d) s) := by
  refine ⟨fun pins s σ H R I hh => ?_⟩
  obtain ⟨M0, e, s0, W, eW, sf, q⟩ := tI_of hh
  refine thn (h.run pins s σ H (fun v H1 => ∃ W1 d ds, W1.H = H1 ∧ Rep F.G W1 d v ∧ itemsD d = some ds ∧ ∀ J, Gives F W1 ds J → R J W1.H) I ⟨M0, e, s0, W, eW, sf, Pk.thn q fun d s1 W1 l1 q1 v sf1 r1 => ?_⟩) fun u s1 ⟨v, H1, I1, ru, W1, d, ds, eH, r1, ei, k⟩ => ?_
  · obtain ⟨ds, ei, q1⟩ := q1.ofO
    exact ⟨W1, d, ds, rfl, r1, ei, fun J g => q1.ok sf1 sf1 J g⟩
  subst eH
  unfold itemsD at ei
  split at ei
  · cases ei
    simp only [Rep] at r1
    obtain ⟨a, vs, rfl, h1, h2, h3⟩ := r1
    cases ru
    exact it_tup I1 (.inl (.inl h3)) (k _ (gives_tup X.K (fun W'' l => .inl (.inl (l.ho h2 h3))) h1))
  · cases ei
    simp only [Rep] at r1
    obtain ⟨a, vs, rfl, h1, h2⟩ := r1
    cases ru
    rw [← hX.K] at h2
    exact it_tup I1 (h2.any _) (k _ (gives_tup X.K (fun W'' l => h2.any _) h1))
  · cases ei
    simp only [Rep] at r1
    obtain ⟨a, vs, rfl, h1, h2⟩ := r1
    cases ru
    rw [← hX.K] at h2
    exact it_list I1 (h2.any _) (k _ (gives_klist X.K h2 h1))
  · cases ei
    simp only [Rep] at r1
    obtain ⟨a, vs, rfl, h1, h2, h3⟩ := r1
    cases ru
    exact it_list I1 (.inl h3) (k _ (gives_list X.K h2 h3 h1))
  · split at ei
    · cases ei
      cases r1.str_inv
      obtain ⟨t, rfl⟩ := ru
      exact it_str I1 (k _ gives_str)
    · cases ei
  · cases ei
/-- what is stored does not matter where nothing is -/
theorem s_toJ {f : Env → Sto → RS (List D)} (h : PI X tg x (tI F f)) : PI X tg x (tJ F f) := by
  refine ⟨fun pins s σ H R I ⟨M0, e, s0, W, eW, sf, q⟩ => h.run pins s σ H R I ⟨M0, e, s0, W, eW, sf, ?_⟩⟩
  cases hf : f e s0 with
  | ok ds s1 =>
    rw [hf] at q
    exact fun W' l sf' J Gs Y w1 w2 w3 => q W' l sf' J Gs Y w1 (fun W'' l' => w2 W'' l'.ls) fun i x W'' H' M1 σ1 e1 s1 l' => w3 i x W'' H' M1 σ1 e1 s1 l'.ls
  | ex c a s1 => rw [hf] at q; exact q
  | no => rw [hf] at q; exact q
/-- the items of what is looked at -/
theorem s_itemsB (hX : XOk F cl C X) {g : Env → Sto → RS D} (h : PE X x (tLk F g)) : PI X tg x (tJ F fun e s => (g e s).bind fun d s => RS.ofO (itemsD d) s) := by
  refine ⟨fun pins s σ H R I ⟨M0, e, s0, W, eW, sf, q⟩ => ?_⟩
  refine thn (h.run pins s σ H (fun v H1 => ∃ W1 d ds s1, W1.H = H1 ∧ SF F M0 σ e s1 W1 ∧ Look F.G W1 d v ∧ itemsD d = some ds ∧ ∀ (J : It) (Gs : Hp → Prop) (Y : Nat → Hp → V → Hp → Prop), Walk J ds.length Gs Y → (∀ W'', Le W1 W'' → Gs W''.H) →
    (∀ i x W'' H' M1 σ1 e1 s1, Le W1 W'' → SF F M1 σ1 e1 s1 W'' → Y i W''.H x H' → ∃ W3, W3.H = H' ∧ Le W'' W3 ∧ SF F M1 σ1 e1 s1 W3 ∧ ∃ d, ds[i]? = some d ∧ Rep F.G W3 d x) → R J W1.H) I ⟨M0, e, s0, W, eW, sf, Pk.thn q fun d s1 W1 l1 q1 v sf1 r1 => ?_⟩) fun u s1 ⟨v, H1, I1, ru, W1, d, ds, st1, eH, sf1, r1, ei, k⟩ => ?_
  · obtain ⟨ds, ei, q1⟩ := q1.ofO
    exact ⟨W1, d, ds, s1, rfl, sf1, r1, ei, fun J Gs Y w1 w2 w3 => q1.ok sf1 sf1 J Gs Y w1 w2 w3⟩
  subst eH
  have same : ∀ {i : Nat} {x : V} {W'' : Wd} {H' : Hp} {M1 : Addr → Prop} {σ1 : L2.St} {e1 : Env} {s1 : Sto} {vs : List V}, Reps F.G W1 ds vs → Le W1 W'' → SF F M1 σ1 e1 s1 W'' → YAt vs i W''.H x H' → ∃ W3, W3.H = H' ∧ Le W'' W3 ∧ SF F M1 σ1 e1 s1 W3 ∧ ∃ d, ds[i]? = some d ∧ Rep F.G W3 d x := fun {i x W'' H' M1 σ1 e1 s1 vs} r l sf y => by
    obtain ⟨y1, y2⟩ := y
    obtain ⟨d, e2, e3⟩ := r.at' y2
    exact ⟨W'', y1.symm, sf.refl, sf, d, e2, e3.le l⟩
  unfold itemsD at ei
  split at ei
  · cases ei
    have r1' : Rep F.G W1 (.tup ds) v := r1
    simp only [Rep] at r1'
    obtain ⟨a, vs, rfl, h1, h2, h3⟩ := r1'
    cases ru
    exact it_tup I1 (.inl (.inl h3)) (k _ _ _ (by rw [h1.length]; exact walk_tup (K := X.K) (a := a) (xs := vs)) (fun W'' l => (Or.inl (.inl (l.ho h2 h3)) : SqT X.K W''.H a vs)) fun i x W'' H' M1 σ1 e1 s1 l sf y => same h1 l sf y)
  · cases ei
    have r1' : Rep F.G W1 (.kt ds) v := r1
    simp only [Rep] at r1'
    obtain ⟨a, vs, rfl, h1, h2⟩ := r1'
    cases ru
    rw [← hX.K] at h2
    exact it_tup I1 (h2.any _) (k _ _ _ (by rw [h1.length]; exact walk_tup (K := X.K) (a := a) (xs := vs)) (fun W'' l => h2.any W''.H) fun i x W'' H' M1 σ1 e1 s1 l sf y => same h1 l sf y)
  · cases ei
    have r1' : Rep F.G W1 (.kl ds) v := r1
    simp only [Rep] at r1'
    obtain ⟨a, vs, rfl, h1, h2⟩ := r1'
    cases ru
    rw [← hX.K] at h2
    exact it_list I1 (h2.any _) (k _ _ _ (by rw [h1.length]; exact walk_list (K := X.K) (a := a) (xs := vs)) (fun W'' l => h2.any W''.H) fun i x W'' H' M1 σ1 e1 s1 l sf y => same h1 l sf y)
  · cases ei
    obtain ⟨a, vs, rfl, h1, h2, h3⟩ := r1
    cases ru
    refine it_list I1 (.inl h3) (k _ _ _ (by rw [h1.length]; exact walk_list (K := X.K) (a := a) (xs := vs)) (fun W'' l => ?_) fun i x W'' H' M1 σ1 e1 s1 l sf y => same h1 l sf y)
    rcases h3 with h3 | ⟨o, h3⟩
    · exact (Or.inl (.inl (l.keep _ _ h3 h2)) : SqL X.K W''.H a vs)
    · exact (Or.inl (.inr ⟨o, l.keep _ _ h3 h2⟩) : SqL X.K W''.H a vs)
  · split at ei
    · cases ei
      cases r1.str_inv
      obtain ⟨t, rfl⟩ := ru
      obtain ⟨Gs, Y, w1, w2, w3⟩ := gives_str (F := F) (W := W1) (z := _)
      exact it_str I1 (k _ Gs Y w1 (fun W'' l => w2 W'' l.ls) fun i x W'' H' M1 σ1 e1 s1 l => w3 i x W'' H' M1 σ1 e1 s1 l.ls)
    · cases ei
  · cases ei
theorem b62_of {i : Int} (h : b62 i = true) : -(2 ^ 62) ≤ i ∧ i < 2 ^ 62 := by
  unfold b62 at h
  simpa using h
theorem s_range1 (hX : XOk F cl C X) {p : Pos} {g : Env → Sto → RS D} (ha : PE X x (tLk F g)) (hg : gloB C.sc "range" = true) (st : starEach [x] X.env = (false, eval x X.env) :: starEach [] X.env) :
    PI X tg (.Call (.Name "range" p) [x] [] pos) (tI F fun e s => ((g e s).bind fun a s => (RS.ok [] s).bind fun as s => .ok (a :: as) s).bind fun xs s => RS.ofO (rangeOf xs) s) := by
  obtain ⟨g1, g2, g3⟩ := glo_of hX hg
  refine ⟨fun pins s σ H R I hh => ?_⟩
  obtain ⟨M0, e, s0, W, eW, sf, q⟩ := tI_of hh
  simp only [bind_assoc3, RS.bind_ok] at q
  refine (pi_range1 g1 (hX.mg.bi .range) (PA_imp (s_consB ha s_nilB st) fun _ _ _ z => z) st).run pins s σ H R I ⟨M0, e, s0, W, eW, sf, ?_⟩
  dsimp only
  cases hr : g e s0 with
  | ok a s1 =>
    rw [hr] at q
    simp only [RS.bind_ok] at q ⊢
    intro W1 l1 vs sf1 r1
    obtain ⟨is, ei, q1⟩ := (Pk.mono q l1).ofO
    obtain ⟨v, rfl, la⟩ := looks1 r1
    unfold rangeOf at ei
    split at ei
    · rename_i hi ez
      cases ez
      split at ei
      · rename_i hb
        cases ei
        cases la.int_inv
        obtain ⟨b1, b2⟩ := b62_of hb
        exact ⟨_, rfl, b1, b2, q1.ok sf1 sf1 _ gives_range⟩
      · cases ei
    · rename_i ez; cases ez
    · cases ei
  | ex c a s1 => rw [hr] at q; exact q
  | no => rw [hr] at q; exact q
theorem s_range2 (hX : XOk F cl C X) {p : Pos} {g g' : Env → Sto → RS D} (ha : PE X x (tLk F g)) (hb : PE X y (tLk F g')) (hg : gloB C.sc "range" = true) (st : starEach [x, y] X.env = (false, eval x X.env) :: starEach [y] X.env) (st2 : starEach [y] X.env = (false, eval y X.env) :: starEach [] X.env) :
    PI X tg (.Call (.Name "range" p) [x, y] [] pos) (tI F fun e s => ((g e s).bind fun a s => ((g' e s).bind fun a s => (RS.ok [] s).bind fun as s => .ok (a :: as) s).bind fun as s => .ok (a :: as) s).bind fun xs s => RS.ofO (rangeOf xs) s) := by
  obtain ⟨g1, g2, g3⟩ := glo_of hX hg
  refine ⟨fun pins s σ H R I hh => ?_⟩
  obtain ⟨M0, e, s0, W, eW, sf, q⟩ := tI_of hh
  simp only [bind_assoc3, RS.bind_ok] at q
  refine (pi_range2 g1 (hX.mg.bi .range) (PA_imp (s_consB ha (s_consB hb s_nilB st2) st) fun _ _ _ z => z) (by rw [st, st2]; rfl) (by rw [st2]; rfl)).run pins s σ H R I ⟨M0, e, s0, W, eW, sf, ?_⟩
  dsimp only
  cases hr : g e s0 with
  | ok a s1 =>
    rw [hr] at q
    simp only [RS.bind_ok] at q ⊢
    cases hr2 : g' e s1 with
    | ok b s2 =>
      rw [hr2] at q
      simp only [RS.bind_ok] at q ⊢
      intro W1 l1 vs sf1 r1
      obtain ⟨is, ei, q1⟩ := (Pk.mono q l1).ofO
      obtain ⟨v, w, rfl, la, lb⟩ := looks2 r1
      unfold rangeOf at ei
      split at ei
      · rename_i ez; cases ez
      · rename_i lo hi ez
        cases ez
        split at ei
        · rename_i hb
          cases ei
          cases la.int_inv
          cases lb.int_inv
          obtain ⟨hb1, hb2⟩ := bnd hb
          obtain ⟨b1, b2⟩ := b62_of hb1
          obtain ⟨b3, b4⟩ := b62_of hb2
          exact ⟨_, _, rfl, ⟨b1, b2, b3, b4⟩, q1.ok sf1 sf1 _ gives_range⟩
        · cases ei
      · cases ei
    | ex c a s1 => rw [hr2] at q; exact q
    | no => rw [hr2] at q; exact q
  | ex c a s1 => rw [hr] at q; exact q
  | no => rw [hr] at q; exact q
theorem s_enum (hX : XOk F cl C X) {p tpos : Pos} {es : List Expr} {kk : Nat} {g : Env → Sto → RS D} (ha : PE X x (tD F g)) (hg : gloB C.sc "enumerate" = true) (st : starEach [x] X.env = (false, eval x X.env) :: starEach [] X.env) :
    PI X (.Tuple es kk tpos) (.Call (.Name "enumerate" p) [x] [] pos) (tI F fun e s => ((g e s).bind fun a s => (RS.ok [] s).bind fun as s => .ok (a :: as) s).bind fun xs s => match xs with
      | [.lst ds] => .ok (iotaD 0 ds) s
      | _ => .no) := by
  obtain ⟨g1, g2, g3⟩ := glo_of hX hg
  refine ⟨fun pins s σ H R I hh => ?_⟩
  obtain ⟨M0, e, s0, W, eW, sf, q⟩ := tI_of hh
  simp only [bind_assoc3, RS.bind_ok] at q
  refine (pi_enum g1 (hX.mg.bi .enum) (PA_imp (s_consD ha s_nilD st) fun _ _ _ z => z) st).run pins s σ H R I ⟨M0, e, s0, W, eW, sf, ?_⟩
  dsimp only
  cases hr : g e s0 with
  | ok a s1 =>
    rw [hr] at q
    simp only [RS.bind_ok] at q ⊢
    intro W1 l1 vs sf1 r1
    have q1 := Pk.mono q l1
    simp only [Reps] at r1
    obtain ⟨v, r, rfl, r1, rfl⟩ := r1
    cases a <;> first | exact q1.elim | skip
    simp only [Rep] at r1
    obtain ⟨a, vs, rfl, h1, h2, h3⟩ := r1
    exact ⟨a, vs, rfl, .inl h3, q1.ok sf1 sf1 _ (gives_enum X.K h2 h3 h1)⟩
  | ex c a s1 => rw [hr] at q; exact q
  | no => rw [hr] at q; exact q
theorem s_lrg (hX : XOk F cl C X) {p p2 p3 : Pos} {g : Env → Sto → RS D} (ha : PE X x (tLk F g)) (h1 : gloB C.sc "list" = true) (h2 : gloB C.sc "range" = true) (st : starEach [x] X.env = (false, eval x X.env) :: starEach [] X.env) :
    PE X (.Call (.Name "list" p) [.Call (.Name "range" p2) [x] [] p3] [] pos) (tV F fun e s => (g e s).bind fun x s => match x with
      | .int n => if b62 n && szOk n.toNat then .ok (.fr (.lst (rangeD 0 n.toNat))) s else .no
      | _ => .no) := by
  obtain ⟨g1, g2, g3⟩ := glo_of hX h1
  obtain ⟨k1, k2, k3⟩ := glo_of hX h2
  refine PE_imp (pe_listRg hX.calm g1 (hX.mg.bi .list) (prg_1 k1 (hX.mg.bi .range) ha st) rfl) fun σ H Q ⟨M0, e, s, W, eW, sf, q⟩ => ⟨M0, e, s, W, eW, sf, Pk.thn q fun a s1 W1 l1 q1 v sf1 la => ?_⟩
  cases a <;> first | exact q1.elim | skip
  rename_i n
  cases la.int_inv
  dsimp only at q1
  by_cases hb : (b62 n && szOk n.toNat) = true
  · rw [if_pos hb] at q1
    obtain ⟨b1, b2⟩ := bnd hb
    obtain ⟨c1, c2⟩ := b62_of b1
    have c3 := of_decide_eq_true b2
    refine ⟨n, rfl, ⟨by omega, by omega, c1, c2, by rw [Int.sub_zero]; omega⟩, fun r hr => ?_⟩
    have hr2 : Reps F.G W1 (rangeD 0 n.toNat) (rgV 0 n) := by
      unfold rangeD rgV
      rw [Int.sub_zero]
      generalize List.range n.toNat = l
      induction l with
      | nil => exact .nil
      | cons k l ih => exact .cons rep_int ih
    exact rv_lst sf1 hr2 hr fun v' W' l ok => q1 W' l v' ok
  · rw [if_neg hb] at q1
    exact q1.elim
end
end Wk

set_option Elab.async false
set_option linter.all false
set_option maxRecDepth 100000
set_option maxHeartbeats 4100000
/-! List comprehensions. -/
namespace Wk
open PySem L2 PySem.Spec PyProof.Rows
section
variable {F : Frm} {cl : CallT} {C : Ck} {X : Cx} {x y z tg iter : Expr} {fa fb fc : Fv} {pos : Pos}
theorem XOk.blk (hX : XOk F cl C X) {scope : Scope} {own : List (Str × Nat)} (ok : BlkOk X.N X.env.scope scope own) (s : Shared) (H : Hp) (Cc : Addr) (cls : List (Str × Addr)) (fp : List Addr) :
    XOk F.dry cl { C with sc := relS scope C.sc } (X.blk s H scope (compEnvC scope cls Cc X.env) fp) where
  K := hX.K
  calm := hX.calm
  nd := hX.nd
  N := hX.N
  kind := ok.kind
  sc := by
    show (relabel scope X.env).names = (relS scope C.sc).names
    have e1 : X.env.scope.kind = C.sc.kind := by rw [hX.kind, hX.sk]
    show (scope.names.map _) = (scope.names.map _)
    refine List.map_congr_left fun a _ => ?_
    show (if (a.2 == NameKind.free && X.env.scope.kind == .function && X.env.scope.names.lookup a.1 == some .cell) then _ else _) = _
    rw [e1, hX.sc]
  sk := ok.kind
  nm := hX.nm
  ck := hX.ck
  gl := hX.gl
  mg := hX.mg
  ty := hX.ty
  hu := hX.hu
  gd := hX.gd
  tk := fun u s' ⟨_, _, _, _, _, _, _, _, _, _, _, _, _, _, _, _, w⟩ => w.elim
  kn := hX.kn
  cl := fun F' X' hF hS hT => hX.cl F' X' hF ⟨hS.prog, hS.w, hS.K, hS.mg, hS.base, hS.calm, hS.A⟩ hT
theorem lcGo_ex {step : D → Sto → RS (Option D)} {c : Nat} {a : Option D} {s' : Sto} : ∀ {ds : List D} {s : Sto} {acc : List D}, lcGo step ds s acc ≠ .ex c a s'
  | [], s, acc, h => by cases h
  | d :: ds, s, acc, h => by
    unfold lcGo at h
    split at h
    · exact lcGo_ex h
    · exact lcGo_ex h
    · cases h
theorem lc_imp (hX : XOk F cl C X) {t : List Nat} {tp : Bool} {vs : List Nat} {gi : Env → Sto → RS (List D)} {ft : Env → Sto → RS Bool} {ge : Env → Sto → RS D} (hin : t.all (fun i => vs.contains i) = true) {σ : L2.St} {H : Hp} {Q : VK}
    (h : tV F (fun e s => (gi e s).bind fun items s => if szOk items.length && noOwn e vs then (lcGo (lcStep ft ge t tp (wipeE e vs)) items s []).bind fun acc s => .ok (.fr (.lst acc)) s else .no) σ H Q) : tLc (tJ F gi) (gT X.K t tp) (tT F.dry ft) (tD F.dry ge) vs σ H Q := by
  have hv : ∀ i ∈ t, i ∈ vs := fun i hi => by
    have := List.all_eq_true.mp hin i hi
    simpa using this
  obtain ⟨M0, e, s, W, eW, sf, q⟩ := h
  refine ⟨M0, e, s, W, eW, sf, Pk.thn q fun items s1 W1 l1 q1 sf1 J Gs Y wk hG hY D hD => ?_⟩
  split at q1
  case isFalse => exact q1.elim
  rename_i hc
  obtain ⟨hz, ho⟩ := bnd hc
  cases hgo : lcGo (lcStep ft ge t tp (wipeE e vs)) items s1 [] with
  | ex c a s2 => exact absurd hgo lcGo_ex
  | no => rw [hgo] at q1; exact q1.elim
  | ok acc sF =>
  rw [hgo] at q1
  simp only [RS.bind_ok] at q1
  obtain ⟨_, hHe, _, hM0⟩ := sf1.free hD
  let M1 : Addr → Prop := fun a => M0 a ∨ a = D
  let Pv : Nat → Hp → Prop := fun i H => ∃ (W2 : Wd) (s2 : Sto) (done : List Wk.D) (ws : List V), W2.H = H ∧ SF F M1 (wipe σ vs) (wipeE e vs) s2 W2 ∧ Le W1 W2 ∧ W2.H D = some (.lst ws) ∧ Reps F.G W2 done ws ∧ ws.length ≤ i ∧ lcGo (lcStep ft ge t tp (wipeE e vs)) (items.drop i) s2 done = .ok acc sF
  refine lc_it wk Pv ?_ ?_ ?_ ?_
  · obtain ⟨sf2, l2, _, _⟩ := sf1.layM (o := .lst []) hD nofun
    exact ⟨_, s1, [], [], rfl, sf2.wipe ho, l2, upd_same, .nil, Nat.le_refl _, by rw [List.drop_zero]; exact hgo⟩
  · rintro i _ _ ⟨W2, s2, done, ws, rfl, _, l2, _⟩
    exact hG W2 l2
  · rintro i v _ H' hin ⟨W2, s2, done, ws, rfl, sf2, l2, hDw, hr, hle, hrest⟩ hy
    obtain ⟨W3, rfl, l3, sf3, d, ed, rd⟩ := hY i v W2 H' M1 _ _ s2 l2 sf2 hy
    have hdr : items.drop i = d :: items.drop (i + 1) := by
      obtain ⟨h1, h2⟩ := List.getElem?_eq_some_iff.mp ed
      rw [List.drop_eq_getElem_cons h1, h2]
    rw [hdr] at hrest
    have noOwnW : noOwn (wipeE e vs) vs = true := by
      refine List.all_eq_true.mpr fun j hj => ?_
      rw [wipeE_at, if_pos hj]
      by_cases hl : j < List.length e
      · rw [if_pos hl]
      · rw [if_neg hl]
    unfold lcGo lcStep at hrest
    cases hset : setT t tp d (wipeE e vs) with
    | none => rw [hset] at hrest; cases hrest
    | some e' =>
    rw [hset] at hrest
    dsimp only at hrest
    refine setT_ok hX.K hset hv noOwnW sf3 rd fun σ' sf4 ho4 w1 w2 => ⟨by rw [w1, wipe_wipe], ?_⟩
    cases hft : ft e' s2 with
    | no => rw [hft] at hrest; cases hrest
    | ex c a s3 => rw [hft] at hrest; cases hrest
    | ok b s3 =>
    rw [hft] at hrest
    simp only [RS.bind_ok] at hrest
    refine ⟨M1, e', s2, W3, rfl, sf4.dry, ?_⟩
    rw [hft]
    intro W4 l4 sf5
    have hD3 : W3.H D = some (.lst ws) := l3.keep _ _ hDw (sf2.rho (.inr rfl))
    have hD4 : W4.H D = some (.lst ws) := l4.keep _ _ hD3 (sf4.rho (.inr rfl))
    have back : ∀ {s' : Sto} {W' : Wd}, SF F M1 σ' e' s' W' → SF F M1 (wipe σ vs) (wipeE e vs) s' W' := fun {s' W'} h => by
      have := h.wipe ho4
      rw [w1, w2, wipe_wipe, wipeE_wipe] at this
      exact this
    cases b with
    | false =>
      rw [if_neg Bool.false_ne_true] at hrest ⊢
      exact ⟨W4, s3, done, ws, rfl, back sf5.wet, (l2.trans l3).trans l4, hD4, hr.le (l3.trans l4), Nat.le_succ_of_le hle, hrest⟩
    | true =>
      rw [if_pos rfl] at hrest ⊢
      cases hge : ge e' s3 with
      | no => rw [hge] at hrest; cases hrest
      | ex c a s4 => rw [hge] at hrest; cases hrest
      | ok yd s4 =>
      rw [hge] at hrest
      simp only [RS.bind_ok] at hrest
      refine ⟨M1, e', s3, W4, rfl, sf5, ?_⟩
      rw [hge]
      intro W5 l5 w sf6 rw'
      have hD5 : W5.H D = some (.lst ws) := l5.keep _ _ hD4 (sf5.rho (.inr rfl))
      have l15 := ((l2.trans l3).trans l4).trans l5
      obtain ⟨sf7, l7⟩ := sf6.wet.put (p := D) (o := .lst (ws ++ [w])) (.inr rfl) (.inl hHe) nofun
      refine ⟨ws, hD5, ?_, W5.put D (.lst (ws ++ [w])), s4, done ++ [yd], ws ++ [w], rfl, back sf7, l15.put hD, upd_same, ?_, by simpa using hle, hrest⟩
      · have := sz_le hz
        omega
      · exact (((hr.le (l3.trans l4)).le l5).ls l7).append (.cons (rw'.ls l7) .nil)
  · rintro H ⟨W2, s2, done, ws, rfl, sf2, l2, hDw, hr, hle, hrest⟩
    rw [List.drop_length] at hrest
    cases hrest
    exact q1 W2 l2 (.ref D) ⟨D, rfl, sf2.unwipe sf1 l2 ho, ⟨ws, hDw, hr⟩, hM0, hHe, nofun⟩
theorem lc_blk (hX : XOk F cl C X) {scope : Scope} {own : List (Str × Nat)} (hb : blkC C.N C.sc scope own = true) : BlkOk X.N X.env.scope scope own := by
  have h0 := blkOk_by hb
  rw [← hX.N] at h0
  refine ⟨h0.kind, h0.uniq, h0.ix, fun y hy e => ?_, h0.own⟩
  have := h0.free y hy e
  rw [← hX.sc] at this
  exact this
theorem lc_tg (hX : XOk F cl C X) {scope : Scope} {t : List Nat} {tp : Bool} (htg : tgOk C scope t tp tg = true) : ∀ (s : Shared) (H : Hp) (Cc : Addr) (cls : List (Str × Addr)) (fp : List Addr), PG (X.blk s H scope (compEnvC scope cls Cc X.env) fp) tg (gT X.K t tp) := fun s H Cc cls fp => by
  refine tg_ok (X := X.blk s H scope (compEnvC scope cls Cc X.env) fp) hX.calm hX.nd hX.N htg fun n hn => ?_
  have keep : ∀ k : NameKind, k ≠ .free → scope.names.lookup n = some k → (relabel scope X.env).names.lookup n = some k := fun k hk h => lookup_relS_keep (sc := X.env.scope) hk h
  rcases hn with hn | hn
  · exact ⟨.inl (keep _ nofun hn), .inr (keep _ nofun hn)⟩
  · exact ⟨.inr (keep _ nofun hn), .inl (by show (scope.names.lookup n == some .cell) = true; rw [hn]; rfl)⟩
theorem s_lc (hX : XOk F cl C X) {tests : List Expr} {scope : Scope} {own : List (Str × Nat)} {t : List Nat} {tp : Bool} {vs : List Nat} {gi : Env → Sto → RS (List D)} {ft : Env → Sto → RS Bool} {ge : Env → Sto → RS D}
    (hi : PI X tg iter (tJ F gi)) (hb : blkC C.N C.sc scope own = true) (hvs : own.map (·.2) = vs) (htg : tgOk C scope t tp tg = true) (hin : t.all (fun i => vs.contains i) = true)
    (ht : ∀ (s : Shared) (H : Hp) (Cc : Addr) (cls : List (Str × Addr)) (fp : List Addr), PTs (X.blk s H scope (compEnvC scope cls Cc X.env) fp) tests (tT F.dry ft))
    (he : ∀ (s : Shared) (H : Hp) (Cc : Addr) (cls : List (Str × Addr)) (fp : List Addr), PE (X.blk s H scope (compEnvC scope cls Cc X.env) fp) x (tD F.dry ge)) (hs : ∀ v, foldedSetIterable iter X.env v = pure v) :
    PE X (.ListComp x [⟨tg, iter, tests, 0⟩] scope pos) (tV F fun e s => (gi e s).bind fun items s => if szOk items.length && noOwn e vs then (lcGo (lcStep ft ge t tp (wipeE e vs)) items s []).bind fun acc s => .ok (.fr (.lst acc)) s else .no) :=
  PE_imp (pe_lc hX.calm hX.nd hi (lc_blk hX hb) (lc_tg hX htg) ht he hs) fun σ H Q h => by
    rw [hvs]
    exact lc_imp hX hin h
end
end Wk

set_option Elab.async false
set_option linter.all false
set_option maxRecDepth 100000
set_option maxHeartbeats 4100000
/-! All expressions. -/
namespace Wk
open PySem L2 PySem.Spec PyProof.Rows
structure EvOk (F : Frm) (cl : CallT) (C : Ck) (X : Cx) (a : Ex) (x : Expr) : Prop where
  v : PE X x (tV F fun e s => (evX F.G.T cl a e s).v)
  b : PE X x (tLk F fun e s => asB F.G.T a e s (evX F.G.T cl a e s).v)
  t : PT X x (tT F fun e s => (evX F.G.T cl a e s).t)
  i : ∀ tg, itOk a tg = true → PI X tg x (tI F fun e s => (evX F.G.T cl a e s).i)
  j : ∀ tg, itOk a tg = true → PI X tg x (tJ F fun e s => (evX F.G.T cl a e s).j)
structure EsOk (F : Frm) (cl : CallT) (C : Ck) (X : Cx) (as : Exs) (xs : List Expr) : Prop where
  ds : PA X xs (tDs F fun e s => evDs F.G.T cl as e s)
  bs : PA X xs (tBs F fun e s => evBs F.G.T cl as e s)
  bo : ∀ op pos, xs ≠ [] → PE X (.BoolOp op xs pos) (tD F fun e s => evBo F.G.T cl op as e s)
  ts : ∀ op pos, xs ≠ [] → PW X (.BoolOp op xs pos) (tT F fun e s => evTs F.G.T cl op as e s)
  pts : xs.length ≤ 1 → PTs X xs (tT F fun e s => evTs F.G.T cl .And as e s)
section
variable {F : Frm} {cl : CallT} {C : Ck} {X : Cx} {x y z tg iter : Expr} {fa fb fc : Fv} {pos : Pos}
theorem PT_no : PT X x (tT F fun _ _ => .no) := ⟨fun pins s σ H Q I ⟨M0, e, s0, W, eW, sf, q⟩ => q.elim⟩
theorem PE_no : PE X x (tV F fun _ _ => .no) := ⟨fun pins s σ H Q I ⟨M0, e, s0, W, eW, sf, q⟩ => q.elim⟩
theorem val_of' {g : Env → Sto → RS D} {σ : L2.St} {H : Hp} {Q : VK} (h : tV F (fun e s => (g e s).bind fun d s => .ok (.val d) s) σ H Q) : tD F g σ H Q := by
  obtain ⟨M0, e, s, W, eW, sf, q⟩ := val_of h
  refine ⟨M0, e, s, W, eW, sf, ?_⟩
  cases hg : g e s with
  | ok d s1 => rw [hg] at q; exact fun W' l v sf' r => q W' l v ⟨sf', r⟩
  | ex c a s1 => rw [hg] at q; exact q
  | no => rw [hg] at q; exact q
/-- from the value: what is looked at, truth, items -/
theorem ev_plain (hX : XOk F cl C X) {a : Ex} (na : ∀ i, a ≠ .loc i) (v : PE X x (tV F fun e s => (evX F.G.T cl a e s).v)) (ht : PT X x (tT F fun e s => (evX F.G.T cl a e s).t))
    (hi : ∀ tg, itOk a tg = true → PI X tg x (tI F fun e s => (evX F.G.T cl a e s).i)) (ej : ∀ e s, (evX F.G.T cl a e s).j = (evX F.G.T cl a e s).i) : EvOk F cl C X a x :=
  ⟨v, s_toB (s_asD v) na, ht, hi, fun tg h => by
    rw [show (fun e s => (evX F.G.T cl a e s).j) = _ from funext fun e => funext fun s => ej e s]
    exact s_toJ (hi tg h)⟩
theorem ev_all (hX : XOk F cl C X) {a : Ex} (na : ∀ i, a ≠ .loc i) (v : PE X x (tV F fun e s => (evX F.G.T cl a e s).v)) (tx : tst x = true)
    (et : ∀ e s, (evX F.G.T cl a e s).t = (asB F.G.T a e s (evX F.G.T cl a e s).v).bind fun x s => truthV F.G.T cl x s) (ei : ∀ e s, (evX F.G.T cl a e s).i = (asD F.G.T (evX F.G.T cl a e s).v).bind fun x s => RS.ofO (itemsD x) s) (ej : ∀ e s, (evX F.G.T cl a e s).j = (evX F.G.T cl a e s).i) : EvOk F cl C X a x := by
  refine ev_plain hX na v ?_ (fun tg _ => ?_) ej
  · have h := s_truth hX (s_toB (s_asD v) na) tx
    rw [show (fun e s => (evX F.G.T cl a e s).t) = _ from funext fun e => funext fun s => et e s]
    exact h
  · have h := s_items (tg := tg) hX (s_asD v)
    rw [show (fun e s => (evX F.G.T cl a e s).i) = _ from funext fun e => funext fun s => ei e s]
    exact h
/-- items alone -/
theorem ev_items (hX : XOk F cl C X) {a : Ex} (v : PE X x (tV F fun e s => (evX F.G.T cl a e s).v)) (ei : ∀ e s, (evX F.G.T cl a e s).i = (asD F.G.T (evX F.G.T cl a e s).v).bind fun x s => RS.ofO (itemsD x) s) (tg : Expr) : PI X tg x (tI F fun e s => (evX F.G.T cl a e s).i) := by
  have h := s_items (tg := tg) hX (s_asD v)
  rw [show (fun e s => (evX F.G.T cl a e s).i) = _ from funext fun e => funext fun s => ei e s]
  exact h
theorem fold_of {a : Ex} (h : chkE a C x = true) (env : PySem.Env) (v : Value) : foldedSetIterable x env v = pure v := by
  cases x <;> first | rfl | skip
  all_goals (cases a <;> simp [chkE] at h)
end
section
variable {cl : CallT}
mutual
theorem ev_ok : ∀ (a : Ex) {F : Frm} {C : Ck} {X : Cx} {x : Expr}, XOk F cl C X → chkE a C x = true → EvOk F cl C X a x
  | .cst d, F, C, X, x, hX, h => by
    cases x <;> simp only [chkE, Bool.false_eq_true] at h
    rename_i c k p
    exact ev_all hX nofun (s_cst (C := C) (k := k) (pos := p) (by simp only [chkE]; exact h)) rfl (fun _ _ => rfl) (fun _ _ => rfl) fun _ _ => rfl
  | .loc i, F, C, X, x, hX, h => by
    have h0 := h
    cases x <;> simp only [chkE, Bool.false_eq_true] at h
    obtain ⟨q1, q2⟩ := s_loc hX h0
    exact ⟨q1, q2, s_truth hX q2 rfl, fun tg _ => s_items hX (s_asD q1), fun tg _ => s_itemsB hX q2⟩
  | .glb g, F, C, X, x, hX, h => by
    have h0 := h
    cases x <;> simp only [chkE, Bool.false_eq_true] at h
    exact ev_all hX nofun (s_glb hX h0) rfl (fun _ _ => rfl) (fun _ _ => rfl) fun _ _ => rfl
  | .bin op a b, F, C, X, x, hX, h => by
    cases x <;> simp only [chkE, Bool.false_eq_true, Bool.and_eq_true, decide_eq_true_eq] at h
    obtain ⟨⟨rfl, h1⟩, h2⟩ := h
    exact ev_all hX nofun (s_bin hX (ev_ok a hX h1).b (ev_ok b hX h2).b) rfl (fun _ _ => rfl) (fun _ _ => rfl) fun _ _ => rfl
  | .neg a, F, C, X, x, hX, h => by
    cases x <;> try simp only [chkE, Bool.false_eq_true] at h
    rename_i op y p
    cases op <;> simp only [chkE, Bool.false_eq_true] at h
    exact ev_all hX nofun (s_neg (ev_ok a hX h).b) rfl (fun _ _ => rfl) (fun _ _ => rfl) fun _ _ => rfl
  | .not a, F, C, X, x, hX, h => by
    cases x <;> try simp only [chkE, Bool.false_eq_true] at h
    rename_i op y p
    cases op <;> simp only [chkE, Bool.false_eq_true] at h
    have v := s_not (pos := p) (ev_ok a hX h).b
    exact ev_plain hX nofun v (s_tnot (ev_ok a hX h).t) (fun tg _ => ev_items (a := .not a) hX v (fun _ _ => rfl) tg) fun _ _ => rfl
  | .bo op es, F, C, X, x, hX, h => by
    cases x <;> simp only [chkE, Bool.false_eq_true, Bool.and_eq_true, decide_eq_true_eq] at h
    rename_i o xs p
    obtain ⟨⟨rfl, h1⟩, h2⟩ := h
    have ne : xs ≠ [] := by rintro rfl; simp at h2
    have hs := evs_ok es hX h1
    have v : PE X (.BoolOp op xs p) (tV F fun e s => (evX F.G.T cl (.bo op es) e s).v) := PE_imp (hs.bo op p ne) fun σ H Q h => val_of' h
    exact ev_plain hX nofun v (s_btst (hs.ts op p ne)) (fun tg _ => ev_items (a := .bo op es) hX v (fun _ _ => rfl) tg) fun _ _ => rfl
  | .cmp op a b, F, C, X, x, hX, h => by
    cases x <;> try simp only [chkE, Bool.false_eq_true] at h
    rename_i y ops zs p
    rcases ops with _ | ⟨o, _ | ⟨o2, ops⟩⟩ <;> try simp only [chkE, Bool.false_eq_true] at h
    rcases zs with _ | ⟨z, _ | ⟨z2, zs⟩⟩ <;> simp only [chkE, Bool.false_eq_true, Bool.and_eq_true, decide_eq_true_eq] at h
    obtain ⟨⟨⟨rfl, h1⟩, h2⟩, h3⟩ := h
    have v := s_cmp (pos := p) (op := op) hX (ev_ok a hX h1).b (ev_ok b hX h2).b h3
    exact ev_plain hX nofun v (s_tcmp hX (ev_ok a hX h1).b (ev_ok b hX h2).b h3 fun _ _ _ _ _ z => cmpV_bl z) (fun tg _ => ev_items (a := .cmp op a b) hX v (fun _ _ => rfl) tg) fun _ _ => rfl
  | .cmp2 op op' a b c, F, C, X, x, hX, h => by
    cases x <;> try simp only [chkE, Bool.false_eq_true] at h
    rename_i y ops zs p
    rcases ops with _ | ⟨o, _ | ⟨o2, _ | ⟨o3, ops⟩⟩⟩ <;> try simp only [chkE, Bool.false_eq_true] at h
    rcases zs with _ | ⟨z, _ | ⟨z2, _ | ⟨z3, zs⟩⟩⟩ <;> simp only [chkE, Bool.false_eq_true, Bool.and_eq_true, decide_eq_true_eq] at h
    obtain ⟨⟨⟨⟨⟨rfl, rfl⟩, h1⟩, h2⟩, h3⟩, h4⟩ := h
    have v := s_cmp2 (pos := p) (op := op) (op' := op') hX (ev_ok a hX h1).b (ev_ok b hX h2).b (ev_ok c hX h3).b h4
    exact ev_plain hX nofun v PT_no (fun tg _ => ev_items (a := .cmp2 op op' a b c) hX v (fun _ _ => rfl) tg) fun _ _ => rfl
  | .ife c a b, F, C, X, x, hX, h => by
    cases x <;> simp only [chkE, Bool.false_eq_true, Bool.and_eq_true] at h
    rename_i p
    obtain ⟨⟨h1, h2⟩, h3⟩ := h
    have v := s_ife (pos := p) (ev_ok c hX h1).t (ev_ok a hX h2).v (ev_ok b hX h3).v
    exact ev_plain hX nofun v PT_no (fun tg _ => ev_items (a := .ife c a b) hX v (fun _ _ => rfl) tg) fun _ _ => rfl
  | .bi f as, F, C, X, x, hX, h => by
    cases x <;> try simp only [chkE, Bool.false_eq_true] at h
    rename_i fn xs kws p
    cases fn <;> try simp only [chkE, Bool.false_eq_true] at h
    rename_i n pn
    cases kws <;> simp only [chkE, Bool.false_eq_true, Bool.and_eq_true, decide_eq_true_eq] at h
    obtain ⟨⟨⟨⟨h1, h2⟩, h3⟩, h4⟩, h5⟩ := h
    have hs := evs_ok as hX h3
    cases xs with
    | nil => simp at h4
    | cons e1 es =>
    cases as with
    | nil => simp [chkEs] at h3
    | cons a as =>
    have h3' := h3
    simp only [chkEs, Bool.and_eq_true] at h3'
    have st := star_of h3'.1 es X.env
    have sa : ∀ pos, (backTo pos (starEach es X.env)).any (·.1) = false := fun pos => star_any h3'.2 pos X.env
    have pl : plainBi f = true → EvOk F cl C X (.bi f (.cons a as)) (.Call (.Name n pn) (e1 :: es) [] p) := fun hp => by
      have v := s_bi (p := pn) (pos := p) hX hs.bs h1 h2 st sa (by cases f <;> first | cases hp; done | exact ⟨nofun, nofun, nofun⟩)
      have v' : PE X (.Call (.Name n pn) (e1 :: es) [] p) (tV F fun e s => (evX F.G.T cl (.bi f (.cons a as)) e s).v) := by
        have e1 : ∀ e s, (evX F.G.T cl (.bi f (.cons a as)) e s).v = (evBs F.G.T cl (.cons a as) e s).bind fun xs s => RS.ofO (biD f xs) s := fun e s => by
          have e1 : (evX F.G.T cl (.bi f (.cons a as)) e s).v = if plainBi f then (evBs F.G.T cl (.cons a as) e s).bind fun xs s => RS.ofO (biD f xs) s else .no := rfl
          rw [e1, if_pos hp]
        rw [show (fun e s => (evX F.G.T cl (.bi f (.cons a as)) e s).v) = _ from funext fun e => funext fun s => e1 e s]
        exact v
      exact ev_all hX nofun v' rfl (fun _ _ => rfl) (fun e s => by cases f <;> first | rfl | cases hp) fun e s => rfl
    have no : plainBi f = false → (∀ tg, itOk (.bi f (.cons a as)) tg = true → PI X tg (.Call (.Name n pn) (e1 :: es) [] p) (tI F fun e s => (evX F.G.T cl (.bi f (.cons a as)) e s).i)) → EvOk F cl C X (.bi f (.cons a as)) (.Call (.Name n pn) (e1 :: es) [] p) := fun hp hi => by
      have ev : ∀ e s, (evX F.G.T cl (.bi f (.cons a as)) e s).v = .no := fun e s => by
        have e1 : (evX F.G.T cl (.bi f (.cons a as)) e s).v = if plainBi f then (evBs F.G.T cl (.cons a as) e s).bind fun xs s => RS.ofO (biD f xs) s else .no := rfl
        rw [e1, hp]; rfl
      have v' : PE X (.Call (.Name n pn) (e1 :: es) [] p) (tV F fun e s => (evX F.G.T cl (.bi f (.cons a as)) e s).v) := by
        rw [show (fun e s => (evX F.G.T cl (.bi f (.cons a as)) e s).v) = _ from funext fun e => funext fun s => ev e s]
        exact PE_no
      have et : ∀ e s, (evX F.G.T cl (.bi f (.cons a as)) e s).t = .no := fun e s => by
        have et : (evX F.G.T cl (.bi f (.cons a as)) e s).t = (asB F.G.T (.bi f (.cons a as)) e s (evX F.G.T cl (.bi f (.cons a as)) e s).v).bind fun x s => truthV F.G.T cl x s := rfl
        rw [et, ev]
        rfl
      refine ev_plain hX nofun v' ?_ hi (fun _ _ => rfl)
      rw [show (fun e s => (evX F.G.T cl (.bi f (.cons a as)) e s).t) = _ from funext fun e => funext fun s => et e s]
      exact PT_no
    subst h1
    cases f with
    | range =>
      refine no rfl fun tg _ => ?_
      cases es with
      | nil =>
        cases as with
        | cons _ _ => simp [chkEs] at h3'
        | nil => exact s_range1 hX (ev_ok a hX h3'.1).b h2 st
      | cons e2 es =>
        have el : es = [] := by
          simp only [decide_eq_true_eq, List.length_cons] at h5
          exact List.eq_nil_of_length_eq_zero (by omega)
        subst el
        cases as with
        | nil => simp [chkEs] at h3'
        | cons b as =>
          have h4' := h3'.2
          simp only [chkEs, Bool.and_eq_true] at h4'
          cases as with
          | cons _ _ => simp [chkEs] at h4'
          | nil => exact s_range2 hX (ev_ok a hX h3'.1).b (ev_ok b hX h4'.1).b h2 st (star_of h4'.1 [] X.env)
    | enum =>
      refine no rfl fun tg ht => ?_
      cases es with
      | cons _ _ => simp at h5
      | nil =>
        cases as with
        | cons _ _ => simp [chkEs] at h3'
        | nil =>
          cases tg <;> simp only [itOk, Bool.false_eq_true] at ht
          exact s_enum hX (s_asD (ev_ok a hX h3'.1).v) h2 st
    | repr => exact pl rfl
    | dict => cases h5
    | len => exact pl rfl
    | abs => exact pl rfl
    | int => exact pl rfl
    | str => exact pl rfl
    | bool => exact pl rfl
    | min => exact pl rfl
    | max => exact pl rfl
    | sum => exact pl rfl
    | any => exact pl rfl
    | all => exact pl rfl
    | sorted => exact pl rfl
    | list => exact pl rfl
    | tuple => exact pl rfl
    | divmod => exact pl rfl
  | .lrg a, F, C, X, x, hX, h => by
    cases x <;> try simp only [chkE, Bool.false_eq_true] at h
    rename_i fn xs kws p
    cases fn <;> try simp only [chkE, Bool.false_eq_true] at h
    rename_i n pn
    rcases xs with _ | ⟨e1, _ | ⟨e2, es⟩⟩ <;> try simp only [chkE, Bool.false_eq_true] at h
    cases e1 <;> try simp only [chkE, Bool.false_eq_true] at h
    rename_i fn2 xs2 kws2 p2
    cases fn2 <;> try simp only [chkE, Bool.false_eq_true] at h
    rename_i n2 pn2
    rcases xs2 with _ | ⟨y, _ | ⟨y2, ys⟩⟩ <;> try simp only [chkE, Bool.false_eq_true] at h
    cases kws2 <;> try simp only [chkE, Bool.false_eq_true] at h
    cases kws <;> simp only [chkE, Bool.false_eq_true, Bool.and_eq_true, decide_eq_true_eq] at h
    obtain ⟨⟨⟨⟨rfl, h2⟩, rfl⟩, h4⟩, h5⟩ := h
    exact ev_all hX nofun (s_lrg hX (ev_ok a hX h5).b h2 h4 (star_of h5 _ _)) rfl (fun _ _ => rfl) (fun _ _ => rfl) fun _ _ => rfl
  | .isi a t, F, C, X, x, hX, h => by
    cases x <;> try simp only [chkE, Bool.false_eq_true] at h
    rename_i fn xs kws p
    cases fn <;> try simp only [chkE, Bool.false_eq_true] at h
    rename_i n pn
    rcases xs with _ | ⟨e1, _ | ⟨e2, _ | ⟨e3, es⟩⟩⟩ <;> try simp only [chkE, Bool.false_eq_true] at h
    · cases e2 <;> try simp only [chkE, Bool.false_eq_true] at h
      cases kws <;> simp only [chkE, Bool.false_eq_true, Bool.and_eq_true, decide_eq_true_eq] at h
      obtain ⟨⟨⟨⟨⟨h1, h2⟩, h3⟩, h4⟩, h5⟩, h6⟩ := h
      exact ev_all hX nofun (s_isi hX (ev_ok a hX h3).b (star_of h3 _ _) h1 h2 h4 h5 h6) rfl (fun _ _ => rfl) (fun _ _ => rfl) fun _ _ => rfl
  | .isT a t, F, C, X, x, hX, h => by
    cases x <;> try simp only [chkE, Bool.false_eq_true] at h
    rename_i fn xs kws p
    cases fn <;> try simp only [chkE, Bool.false_eq_true] at h
    rename_i n pn
    rcases xs with _ | ⟨e1, _ | ⟨e2, _ | ⟨e3, es⟩⟩⟩ <;> try simp only [chkE, Bool.false_eq_true] at h
    · cases e2 <;> try simp only [chkE, Bool.false_eq_true] at h
      cases kws <;> simp only [chkE, Bool.false_eq_true, Bool.and_eq_true, decide_eq_true_eq] at h
      obtain ⟨⟨⟨⟨⟨h1, h2⟩, h3⟩, h4⟩, h5⟩, h6⟩ := h
      exact ev_all hX nofun (s_isT hX (ev_ok a hX h3).b (star_of h3 _ _) h1 h2 h4 h5 h6) rfl (fun _ _ => rfl) (fun _ _ => rfl) fun _ _ => rfl
  | .sm m o a, F, C, X, x, hX, h => by
    cases x <;> try simp only [chkE, Bool.false_eq_true] at h
    rename_i fn xs kws p
    cases fn <;> try simp only [chkE, Bool.false_eq_true] at h
    rename_i y n ap
    rcases xs with _ | ⟨e1, _ | ⟨e2, es⟩⟩ <;> try simp only [chkE, Bool.false_eq_true] at h
    · cases kws <;> simp only [chkE, Bool.false_eq_true, Bool.and_eq_true, decide_eq_true_eq] at h
      obtain ⟨⟨⟨⟨h1, h2⟩, h3⟩, h4⟩, h5⟩ := h
      exact ev_all hX nofun (s_split (ev_ok o hX h2).b (ev_ok a hX h3).b (star_of h3 _ _) h5 h4 m n h1) rfl (fun _ _ => rfl) (fun _ _ => rfl) fun _ _ => rfl
  | .call f as kn ks, F, C, X, x, hX, h => by
    have h0 := h
    cases x <;> try simp only [chkE, Bool.false_eq_true] at h
    rename_i fn xs kws p
    cases fn <;> simp only [chkE, Bool.false_eq_true, Bool.and_eq_true, decide_eq_true_eq] at h
    rename_i n pn
    obtain ⟨⟨⟨⟨h1, h2⟩, h3⟩, h4⟩, h5⟩ := h
    refine ev_all hX nofun (s_call hX (evs_ok as hX h4).ds (kws_ok ks hX h5) h0 fun z e s => ?_) rfl (fun _ _ => rfl) (fun _ _ => rfl) fun _ _ => rfl
    subst z
    cases as with
    | nil => rfl
    | cons _ _ => simp [chkEs] at h4
  | .meth o m as kn ks, F, C, X, x, hX, h => by
    have h0 := h
    cases x <;> try simp only [chkE, Bool.false_eq_true] at h
    rename_i fn xs kws p
    cases fn <;> simp only [chkE, Bool.false_eq_true, Bool.and_eq_true, decide_eq_true_eq] at h
    rename_i y n ap
    obtain ⟨⟨⟨⟨⟨⟨h1, h2⟩, h3⟩, h4⟩, h5⟩, h6⟩, h7⟩ := h
    refine ev_all hX nofun (s_meth hX (s_asD (ev_ok o hX h2).v) (evs_ok as hX h3).ds (kws_ok ks hX h4) h0 fun z e s => ?_) rfl (fun _ _ => rfl) (fun _ _ => rfl) fun _ _ => rfl
    subst z
    cases as with
    | nil => rfl
    | cons _ _ => simp [chkEs] at h3
  | .attr o f, F, C, X, x, hX, h => by
    cases x <;> simp only [chkE, Bool.false_eq_true, Bool.and_eq_true, decide_eq_true_eq] at h
    rename_i y n p
    obtain ⟨⟨h1, h2⟩, h3⟩ := h
    have v : PE X (.Attribute y n p) (tV F fun e s => (evX F.G.T cl (.attr o f) e s).v) := by
      by_cases hl : ∃ i, o = .loc i
      · obtain ⟨i, rfl⟩ := hl
        have h2' := h2
        cases y <;> simp only [chkE, Bool.false_eq_true] at h2'
        refine PE_imp (s_attrL hX h1 h2) fun σ H Q ⟨M0, e, s, W, eW, sf, q⟩ => ⟨M0, e, s, W, eW, sf, ?_⟩
        dsimp only at q ⊢
        have e1 : (evX F.G.T cl (.attr (.loc i) f) e s).v = match ownFld e i f with
          | some d => .ok (.val d) s
          | none => (asD F.G.T (RS.ofO ((slotD e i).map .val) s)).bind fun x s => (attrV F.G.T cl x f s).bind fun r s => .ok (.val r) s := rfl
        rw [e1] at q
        cases hf : ownFld e i f with
        | some d => rw [hf] at q; exact q
        | none =>
          rw [hf] at q
          cases hd : slotD e i with
          | none => rw [hd] at q; exact q
          | some d => rw [hd] at q; exact q
      · refine PE_imp (s_attr hX (s_asD (ev_ok o hX h2).v) h1 h3) fun σ H Q ⟨M0, e, s, W, eW, sf, q⟩ => ⟨M0, e, s, W, eW, sf, ?_⟩
        dsimp only at q
        have e0 : ownOf e o f = none := by
          unfold ownOf
          split
          · exact absurd ⟨_, rfl⟩ hl
          · rfl
        have e1 : (evX F.G.T cl (.attr o f) e s).v = match ownOf e o f with
          | some d => .ok (.val d) s
          | none => (asD F.G.T (evX F.G.T cl o e s).v).bind fun x s => (attrV F.G.T cl x f s).bind fun r s => .ok (.val r) s := rfl
        rw [e1, e0] at q
        exact q
    exact ev_all hX nofun v rfl (fun _ _ => rfl) (fun _ _ => rfl) fun _ _ => rfl
  | .idx a b, F, C, X, x, hX, h => by
    cases x <;> simp only [chkE, Bool.false_eq_true, Bool.and_eq_true] at h
    exact ev_all hX nofun (s_idx hX (ev_ok a hX h.1).b (ev_ok b hX h.2).b (plain_of h.2)) rfl (fun _ _ => rfl) (fun _ _ => rfl) fun _ _ => rfl
  | .slc a lo hi, F, C, X, x, hX, h => by
    cases x <;> try simp only [chkE, Bool.false_eq_true] at h
    rename_i y sl p
    cases sl <;> try simp only [chkE, Bool.false_eq_true] at h
    rename_i l u st p2
    cases st <;> simp only [chkE, Bool.false_eq_true, Bool.and_eq_true] at h
    obtain ⟨⟨h1, h2⟩, h3⟩ := h
    exact ev_all hX nofun (s_slc hX (ev_ok a hX h1).b (evo_ok lo hX h2) (evo_ok hi hX h3)) rfl (fun _ _ => rfl) (fun _ _ => rfl) fun _ _ => rfl
  | .rev a, F, C, X, x, hX, h => by
    cases x <;> try simp only [chkE, Bool.false_eq_true] at h
    rename_i y sl p
    cases sl <;> try simp only [chkE, Bool.false_eq_true] at h
    rename_i l u st p2
    cases l <;> try simp only [chkE, Bool.false_eq_true] at h
    cases u <;> try simp only [chkE, Bool.false_eq_true] at h
    cases st <;> try simp only [chkE, Bool.false_eq_true] at h
    rename_i w
    cases w <;> try simp only [chkE, Bool.false_eq_true] at h
    rename_i op z p3
    cases op <;> try simp only [chkE, Bool.false_eq_true] at h
    cases z <;> try simp only [chkE, Bool.false_eq_true] at h
    rename_i c k p4
    cases c <;> simp only [chkE, Bool.false_eq_true, Bool.and_eq_true, decide_eq_true_eq] at h
    exact ev_all hX nofun (s_rev hX (ev_ok a hX h.2).b h.1) rfl (fun _ _ => rfl) (fun _ _ => rfl) fun _ _ => rfl
  | .tup es, F, C, X, x, hX, h => by
    cases x <;> simp only [chkE, Bool.false_eq_true] at h
    exact ev_all hX nofun (s_tup (evs_ok es hX h).ds) rfl (fun _ _ => rfl) (fun _ _ => rfl) fun _ _ => rfl
  | .lst es, F, C, X, x, hX, h => by
    cases x <;> simp only [chkE, Bool.false_eq_true] at h
    exact ev_all hX nofun (s_lst (evs_ok es hX h).ds) rfl (fun _ _ => rfl) (fun _ _ => rfl) fun _ _ => rfl
  | .dct ks vs, F, C, X, x, hX, h => by cases x <;> simp [chkE] at h
  | .lc el t tp it ifs vs, F, C, X, x, hX, h => by
    cases x <;> try simp only [chkE, Bool.false_eq_true] at h
    rename_i y gens scope p
    rcases gens with _ | ⟨⟨tg, iter, tests, as⟩, _ | ⟨g2, gens⟩⟩ <;> try simp only [chkE, Bool.false_eq_true] at h
    by_cases e0 : as = 0
    case neg => exfalso; simp [chkE, e0] at h
    subst e0
    simp only [chkE, Bool.false_eq_true, Bool.and_eq_true, decide_eq_true_eq] at h
    obtain ⟨⟨⟨⟨⟨⟨⟨⟨h1, hit⟩, h2⟩, h3⟩, h4⟩, h5⟩, h6⟩, h7⟩, h8⟩ := h
    have ok : BlkOk X.N X.env.scope scope (ownOk C.N vs) := by
      have h0 := blkOk_by h2
      rw [← hX.N] at h0
      refine ⟨h0.kind, h0.uniq, by rw [← hX.N]; exact h0.ix, fun y hy e => ?_, by rw [← hX.N]; exact h0.own⟩
      have := h0.free y hy e
      rw [← hX.sc] at this
      exact this
    exact ev_all hX nofun (s_lc hX ((ev_ok it hX h1).j tg hit) h2 h3 h4 h5 (fun s H Cc cls fp => (evs_ok ifs (hX.blk ok s H Cc cls fp) h6).pts h7) (fun s H Cc cls fp => s_asD (ev_ok el (hX.blk ok s H Cc cls fp) h8).v) fun v => fold_of h1 _ v) rfl (fun _ _ => rfl) (fun _ _ => rfl) fun _ _ => rfl
  | .lc2 .., F, C, X, x, hX, h => by cases x <;> simp [chkE] at h
  | .dc .., F, C, X, x, hX, h => by cases x <;> simp [chkE] at h
  | .fst _, F, C, X, x, hX, h => by cases x <;> simp [chkE] at h
  | .fmt _, F, C, X, x, hX, h => by cases x <;> simp [chkE] at h
theorem evs_ok : ∀ (as : Exs) {F : Frm} {C : Ck} {X : Cx} {xs : List Expr}, XOk F cl C X → chkEs as C xs = true → EsOk F cl C X as xs
  | .nil, F, C, X, xs, hX, h => by
    cases xs with
    | cons _ _ => simp [chkEs] at h
    | nil => exact ⟨s_nilD, s_nilB, fun _ _ z => absurd rfl z, fun _ _ z => absurd rfl z, fun _ => ⟨fun pins s σ H Q I ⟨M0, e, s0, W, eW, sf, q⟩ => pts_nil.run pins s σ H Q I (by
        show Q true H
        rw [← eW]
        exact q.ok sf sf)⟩⟩
  | .cons a as, F, C, X, xs, hX, h => by
    cases xs with
    | nil => simp [chkEs] at h
    | cons x xs =>
    simp only [chkEs, Bool.and_eq_true] at h
    have ha := ev_ok a hX h.1
    have hs := evs_ok as hX h.2
    have st := star_of h.1 xs X.env
    refine ⟨s_consD (s_asD ha.v) hs.ds st, s_consB ha.b hs.bs st, fun op pos _ => ?_, fun op pos _ => ?_, fun hl => ?_⟩
    · cases xs with
      | nil =>
        cases as with
        | cons _ _ => simp [chkEs] at h
        | nil => exact s_bo1 (s_asD ha.v)
      | cons x2 xs =>
        cases as with
        | nil => simp [chkEs] at h
        | cons b bs => exact s_bo2 (s_asD ha.v) (hs.bo op pos nofun)
    · cases xs with
      | nil =>
        cases as with
        | cons _ _ => simp [chkEs] at h
        | nil => exact s_tb1 ha.t
      | cons x2 xs =>
        cases as with
        | nil => simp [chkEs] at h
        | cons b bs => exact s_tb2 ha.t (hs.ts op pos nofun)
    · have e0 : xs = [] := List.eq_nil_of_length_eq_zero (by simpa using hl)
      subst e0
      cases as with
      | cons _ _ => simp [chkEs] at h
      | nil =>
        refine ⟨fun pins s σ H Q I ⟨M0, e, s0, W, eW, sf, q⟩ => (pts_one ha.t).run pins s σ H Q I ⟨M0, e, s0, W, eW, sf, Pk.thn q fun b s1 W1 l1 q1 sf1 => ?_⟩⟩
        by_cases hb : b = neu .And
        · subst hb
          rw [if_pos rfl] at q1
          exact q1.ok sf1 sf1
        · rw [if_neg hb] at q1
          exact q1.ok sf1 sf1
theorem kws_ok : ∀ (as : Exs) {F : Frm} {C : Ck} {X : Cx} {kn : List Nat} {xs : List Keyword}, XOk F cl C X → chkK kn as C xs = true → PK X xs (tDs F fun e s => evDs F.G.T cl as e s)
  | .nil, F, C, X, kn, xs, hX, h => by
    cases xs with
    | nil => exact PK_nilD
    | cons _ _ => cases kn <;> simp [chkK] at h
  | .cons a as, F, C, X, kn, xs, hX, h => by
    cases kn with
    | nil => simp [chkK] at h
    | cons k kn =>
    cases xs with
    | nil => simp [chkK] at h
    | cons kw xs =>
    obtain ⟨nm, x, p⟩ := kw
    cases nm with
    | none => simp [chkK] at h
    | some n =>
    simp only [chkK, Bool.and_eq_true] at h
    exact PK_consD (s_asD (ev_ok a hX h.1.2).v) (kws_ok as hX h.2)
theorem evo_ok : ∀ (a : Exo) {F : Frm} {C : Ck} {X : Cx} {x : Option Expr}, XOk F cl C X → chkO a C x = true → PO X x (tPo F fun e s => evO F.G.T cl a e s)
  | .no, F, C, X, x, hX, h => by
    cases x with
    | some _ => simp [chkO] at h
    | none => exact s_po0
  | .so a, F, C, X, x, hX, h => by
    cases x with
    | none => simp [chkO] at h
    | some y =>
    simp only [chkO] at h
    exact s_po1 (ev_ok a hX h).b
end
end
end Wk

set_option Elab.async false
set_option linter.all false
set_option maxRecDepth 100000
set_option maxHeartbeats 4100000
/-! Frames under statements. -/
namespace Wk
open PySem L2 PySem.Spec PyProof.Rows
/-- a new list, a new part of it -/
abbrev Wd.re (W : Wd) (M0 : Addr → Prop) (σ' : L2.St) (e' : Env) : Wd := ⟨W.ρ, fun a => M0 a ∨ a ∈ W.ρ ∨ ∃ (i : Nat) (o : Own), e'[i]? = some (some (.own o)) ∧ σ'[i]? = some (some (.ref a)), W.H⟩
section
variable {F : Frm} {M0 M1 : Addr → Prop} {σ σ' : L2.St} {e e' : Env} {s : Sto} {W W' W1 : Wd}
theorem Shows.same {G : GS} (l : Ls W W') (hH : W'.H = W.H) {a : Addr} {o : Own} (h : Shows G W a o) : Shows G W' a o := by
  cases o with
  | lst ds => obtain ⟨vs, z, r⟩ := h; exact ⟨vs, by rw [hH]; exact z, r.ls l⟩
  | dK ks ds => obtain ⟨vs, z, y, nd, r⟩ := h; exact ⟨vs, by rw [hH]; exact z, y, nd, r.ls l⟩
  | dT ks ds => obtain ⟨vs, z, y, r⟩ := h; exact ⟨vs, by rw [hH]; exact z, y, r.ls l⟩
  | ins c ns ds => obtain ⟨dx, vs, z, y, r, t⟩ := h; exact ⟨dx, vs, by rw [hH]; exact z, y, r.ls l, t⟩
theorem SF.re (h : SF F M1 σ e s W) (hM : ∀ a, M0 a → M1 a) (hl : e'.length = σ'.length) (ho : ∀ (i : Nat) (o : Own), e'[i]? = some (some (.own o)) → ∃ a, σ'[i]? = some (some (.ref a)) ∧ Shows F.G W a o ∧ ¬ M0 a ∧ a ∉ W.ρ ∧ (F.He a = none ∨ F.Xs a) ∧ W.Mu a)
    (hap : ∀ (i j : Nat) (o o' : Own) (a : Addr), e'[i]? = some (some (.own o)) → e'[j]? = some (some (.own o')) → σ'[i]? = some (some (.ref a)) → σ'[j]? = some (some (.ref a)) → i = j)
    (hv : ∀ (i : Nat) (d : D), e'[i]? = some (some (.val d)) → ∃ v, σ'[i]? = some (some v) ∧ Rep F.G (W.re M0 σ' e') d v)
    (hin : ∀ (i c : Nat) (ns : List Nat) (ds : List D) (a : Addr), e'[i]? = some (some (.own (.ins c ns ds))) → σ'[i]? = some (some (.ref a)) → F.I a) : Ls W (W.re M0 σ' e') ∧ SF F M0 σ' e' s (W.re M0 σ' e') := by
  have l : Ls W (W.re M0 σ' e') := ⟨List.prefix_refl _, fun _ _ q _ => q, fun a z => by
    rcases z with z | z | ⟨i, o, z1, z2⟩
    · exact .inl ((h.mu a).mpr (.inl (hM a z)))
    · exact .inl ((h.mu a).mpr (.inr (.inl z)))
    · obtain ⟨b, q1, _, _, _, _, q2⟩ := ho i o z1
      rw [z2] at q1
      cases q1
      exact .inl q2⟩
  refine ⟨l, ⟨fun a => Iff.rfl, hl, hv, fun i o q => ?_, hap, h.stl, fun n o q => ?_, h.nd, h.keep, fun a z => h.m0 a (hM a z), h.xs, h.fresh, hin⟩⟩
  · obtain ⟨a, q1, q2, q3, q4, q5, _⟩ := ho i o q
    exact ⟨a, q1, q2.same l rfl, q3, q4, q5⟩
  · obtain ⟨a, q1, q2, q3⟩ := h.sto n o q
    exact ⟨a, q1, q2.same l rfl, fun z => q3 (hM a z)⟩
/-- a name is set, whatever it held -/
theorem SF.setV (h : SF F M0 σ e s W) {i : Nat} {d : D} {v : V} (r : Rep F.G W d v) : ∃ W', W'.H = W.H ∧ Ls W W' ∧ SF F M0 (σ.set i (some v)) (e.set i (some (.val d))) s W' := by
  have keep : ∀ {j : Nat} {o : Own}, (e.set i (some (.val d)))[j]? = some (some (.own o)) → i ≠ j ∧ e[j]? = some (some (.own o)) := fun {j o} q => by
    by_cases hj : i = j
    · subst hj
      rw [List.getElem?_set_self'] at q
      cases hz : e[i]? with
      | none => rw [hz] at q; cases q
      | some y => rw [hz] at q; cases q
    · rw [List.getElem?_set_ne hj] at q
      exact ⟨hj, q⟩
  have l0 : ∀ (W' : Wd), W'.ρ = W.ρ → W'.H = W.H → (∀ a, W'.Mu a → W.Mu a) → Ls W W' := fun W' h1 h2 h3 => ⟨by rw [h1]; exact List.prefix_refl _, fun _ _ q _ => by rw [h2]; exact q, fun a z => .inl (h3 a z)⟩
  have key : Ls W (W.re M0 (σ.set i (some v)) (e.set i (some (.val d)))) ∧ SF F M0 (σ.set i (some v)) (e.set i (some (.val d))) s (W.re M0 (σ.set i (some v)) (e.set i (some (.val d)))) := by
    refine h.re (M0 := M0) (σ' := σ.set i (some v)) (e' := e.set i (some (.val d))) (fun _ z => z) (by rw [List.length_set, List.length_set, h.len]) (fun j o q => ?_) (fun j k o o' a q q' r r' => ?_) (fun j x q => ?_) (fun j c ns ds a q r => by
      obtain ⟨ne, q⟩ := keep q
      rw [List.getElem?_set_ne ne] at r
      exact h.ins j c ns ds a q r)
    · obtain ⟨ne, q⟩ := keep q
      obtain ⟨a, q1, q2, q3, q4, q5⟩ := h.own j o q
      exact ⟨a, by rw [List.getElem?_set_ne ne]; exact q1, q2, q3, q4, q5, (h.mu a).mpr (.inr (.inr ⟨j, o, q, q1⟩))⟩
    · obtain ⟨n1, q⟩ := keep q
      obtain ⟨n2, q'⟩ := keep q'
      rw [List.getElem?_set_ne n1] at r
      rw [List.getElem?_set_ne n2] at r'
      exact h.apart j k o o' a q q' r r'
    · have l1 : Ls W (W.re M0 (σ.set i (some v)) (e.set i (some (.val d)))) := l0 _ rfl rfl fun a z => by
        rcases z with z | z | ⟨k, o, z1, z2⟩
        · exact (h.mu a).mpr (.inl z)
        · exact (h.mu a).mpr (.inr (.inl z))
        · obtain ⟨ne, z1⟩ := keep z1
          rw [List.getElem?_set_ne ne] at z2
          exact (h.mu a).mpr (.inr (.inr ⟨k, o, z1, z2⟩))
      by_cases hj : i = j
      · subst hj
        have hl : i < e.length := by
          rcases Nat.lt_or_ge i e.length with z | z
          · exact z
          · rw [List.getElem?_eq_none (by rw [List.length_set]; exact z)] at q; cases q
        rw [List.getElem?_set_self hl] at q
        cases q
        exact ⟨v, by rw [List.getElem?_set_self (by rw [← h.len]; exact hl)], r.ls l1⟩
      · rw [List.getElem?_set_ne hj] at q ⊢
        obtain ⟨w, q1, q2⟩ := h.val j x q
        exact ⟨w, q1, q2.ls l1⟩
  exact ⟨W.re _ _ _, rfl, key.1, key.2⟩
/-- a name is given a new thing of its own -/
theorem SF.setO {p : Addr} (h : SF F (fun a => M0 a ∨ a = p) σ e s W) {i : Nat} {o : Own} (sh : Shows F.G W p o) (nm : ¬ M0 p) (hHe : F.He p = none) (hni : ∀ c ns ds, o ≠ .ins c ns ds) : ∃ W', W'.H = W.H ∧ Ls W W' ∧ SF F M0 (σ.set i (some (.ref p))) (e.set i (some (.own o))) s W' := by
  have np : p ∉ W.ρ := h.rho (.inr rfl)
  have nown : ∀ {j : Nat} {u : Own}, e[j]? = some (some (.own u)) → σ[j]? = some (some (.ref p)) → False := fun q1 q2 => h.sep (.inr rfl) q1 q2
  have keep : ∀ {j : Nat} {u : Own}, i ≠ j → (e.set i (some (.own o)))[j]? = some (some (.own u)) → e[j]? = some (some (.own u)) := fun {j u} hj q => by
    rw [List.getElem?_set_ne hj] at q
    exact q
  have here : ∀ {u : Own}, (e.set i (some (.own o)))[i]? = some (some (.own u)) → u = o ∧ i < σ.length := fun {u} q => by
    have hl : i < e.length := by
      rcases Nat.lt_or_ge i e.length with z | z
      · exact z
      · rw [List.getElem?_eq_none (by rw [List.length_set]; exact z)] at q; cases q
    rw [List.getElem?_set_self hl] at q
    cases q
    exact ⟨rfl, by rw [← h.len]; exact hl⟩
  have mu : ∀ a, (W.re M0 (σ.set i (some (.ref p))) (e.set i (some (.own o)))).Mu a → W.Mu a := fun a z => by
    rcases z with z | z | ⟨k, u, z1, z2⟩
    · exact (h.mu a).mpr (.inl (.inl z))
    · exact (h.mu a).mpr (.inr (.inl z))
    · by_cases hk : i = k
      · subst hk
        obtain ⟨_, hl⟩ := here z1
        rw [List.getElem?_set_self hl] at z2
        cases z2
        exact (h.mu p).mpr (.inl (.inr rfl))
      · rw [List.getElem?_set_ne hk] at z2
        exact (h.mu a).mpr (.inr (.inr ⟨k, u, keep hk z1, z2⟩))
  have key : Ls W (W.re M0 (σ.set i (some (.ref p))) (e.set i (some (.own o)))) ∧ SF F M0 (σ.set i (some (.ref p))) (e.set i (some (.own o))) s (W.re M0 (σ.set i (some (.ref p))) (e.set i (some (.own o)))) := by
    refine h.re (M0 := M0) (σ' := σ.set i (some (.ref p))) (e' := e.set i (some (.own o))) (fun _ z => .inl z) (by rw [List.length_set, List.length_set, h.len]) (fun j u q => ?_) (fun j k u u' a q q' r r' => ?_) (fun j x q => ?_) (fun j c ns ds a q r => by
      by_cases hj : i = j
      · subst hj
        exact absurd (here q).1.symm (hni c ns ds)
      · rw [List.getElem?_set_ne hj] at r
        exact h.ins j c ns ds a (keep hj q) r)
    · by_cases hj : i = j
      · subst hj
        obtain ⟨rfl, hl⟩ := here q
        exact ⟨p, by rw [List.getElem?_set_self hl], sh, nm, np, .inl hHe, (h.mu p).mpr (.inl (.inr rfl))⟩
      · have q := keep hj q
        obtain ⟨a, q1, q2, q3, q4, q5⟩ := h.own j u q
        exact ⟨a, by rw [List.getElem?_set_ne hj]; exact q1, q2, fun z => q3 (.inl z), q4, q5, (h.mu a).mpr (.inr (.inr ⟨j, u, q, q1⟩))⟩
    · by_cases hj : i = j
      · subst hj
        obtain ⟨_, hl⟩ := here q
        rw [List.getElem?_set_self hl] at r
        cases r
        by_cases hk : i = k
        · exact hk
        · rw [List.getElem?_set_ne hk] at r'
          exact (nown (keep hk q') r').elim
      · rw [List.getElem?_set_ne hj] at r
        by_cases hk : i = k
        · subst hk
          obtain ⟨_, hl⟩ := here q'
          rw [List.getElem?_set_self hl] at r'
          cases r'
          exact (nown (keep hj q) r).elim
        · rw [List.getElem?_set_ne hk] at r'
          exact h.apart j k u u' a (keep hj q) (keep hk q') r r'
    · have l1 : Ls W (W.re M0 (σ.set i (some (.ref p))) (e.set i (some (.own o)))) := ⟨List.prefix_refl _, fun _ _ q _ => q, fun a z => .inl (mu a z)⟩
      by_cases hj : i = j
      · subst hj
        rw [List.getElem?_set_self'] at q
        cases hz : e[i]? with
        | none => rw [hz] at q; cases q
        | some y => rw [hz] at q; cases q
      · rw [List.getElem?_set_ne hj] at q ⊢
        obtain ⟨w, q1, q2⟩ := h.val j x q
        exact ⟨w, q1, q2.ls l1⟩
  exact ⟨W.re _ _ _, rfl, key.1, key.2⟩
/-- a name's own thing is kept as it is from now on -/
theorem SF.mv (h : SF F M0 σ e s W) {i : Nat} {o : Own} {d : D} (q : e[i]? = some (some (.own o))) (ht : treeO F.G.T o = some d) : ∃ W', W'.H = W.H ∧ Ls W W' ∧ SF F M0 σ (e.set i (some (.val d))) s W' := by
  obtain ⟨a, q1, q2, q3, q4, q5⟩ := h.own i o q
  have hl : i < e.length := (List.getElem?_eq_some_iff.mp q).1
  have keep : ∀ {j : Nat} {u : Own}, (e.set i (some (.val d)))[j]? = some (some (.own u)) → i ≠ j ∧ e[j]? = some (some (.own u)) := fun {j u} z => by
    by_cases hj : i = j
    · subst hj
      rw [List.getElem?_set_self hl] at z
      cases z
    · rw [List.getElem?_set_ne hj] at z
      exact ⟨hj, z⟩
  have mu : ∀ b, (W.re M0 σ (e.set i (some (.val d)))).Mu b → W.Mu b := fun b z => by
    rcases z with z | z | ⟨k, u, z1, z2⟩
    · exact (h.mu b).mpr (.inl z)
    · exact (h.mu b).mpr (.inr (.inl z))
    · exact (h.mu b).mpr (.inr (.inr ⟨k, u, (keep z1).2, z2⟩))
  have na : ¬ (W.re M0 σ (e.set i (some (.val d)))).Mu a := fun z => by
    rcases z with z | z | ⟨k, u, z1, z2⟩
    · exact q3 z
    · exact q4 z
    · obtain ⟨ne, z1⟩ := keep z1
      exact ne (h.apart i k o u a q z1 q1 z2)
  have l1 : Ls W (W.re M0 σ (e.set i (some (.val d)))) := ⟨List.prefix_refl _, fun _ _ q _ => q, fun b z => .inl (mu b z)⟩
  have key : Ls W (W.re M0 (σ) (e.set i (some (.val d)))) ∧ SF F M0 (σ) (e.set i (some (.val d))) s (W.re M0 (σ) (e.set i (some (.val d)))) := by
    refine h.re (M0 := M0) (σ' := σ) (e' := e.set i (some (.val d))) (fun _ z => z) (by rw [List.length_set, h.len]) (fun j u z => ?_) (fun j k u u' b z z' r r' => ?_) (fun j x z => ?_) (fun j c ns ds b z r => h.ins j c ns ds b (keep z).2 r)
    · obtain ⟨ne, z⟩ := keep z
      obtain ⟨b, z1, z2, z3, z4, z5⟩ := h.own j u z
      exact ⟨b, z1, z2, z3, z4, z5, (h.mu b).mpr (.inr (.inr ⟨j, u, z, z1⟩))⟩
    · exact h.apart j k u u' b (keep z).2 (keep z').2 r r'
    · by_cases hj : i = j
      · subst hj
        rw [List.getElem?_set_self hl] at z
        cases z
        exact ⟨_, q1, (q2.same l1 rfl).rep na ht⟩
      · rw [List.getElem?_set_ne hj] at z
        obtain ⟨w, z1, z2⟩ := h.val j x z
        exact ⟨w, z1, z2.ls l1⟩
  exact ⟨W.re _ _ _, rfl, key.1, key.2⟩
/-- a name's own thing is written -/
theorem SF.wr (h : SF F M0 σ e s W) {i : Nat} {o o' : Own} {a : Addr} {u : HO} (q : e[i]? = some (some (.own o))) (q1 : σ[i]? = some (some (.ref a))) (sh : Shows F.G (W.put a u) a o') (hin : ∀ c ns ds, o' = .ins c ns ds → ∃ c' ns' ds', o = .ins c' ns' ds') : Ls W (W.put a u) ∧ SF F M0 σ (e.set i (some (.own o'))) s (W.put a u) := by
  obtain ⟨a', q1', q2, q3, q4, q5⟩ := h.own i o q
  rw [q1] at q1'
  cases q1'
  have hl : i < e.length := (List.getElem?_eq_some_iff.mp q).1
  have mp : W.Mu a := (h.mu a).mpr (.inr (.inr ⟨i, o, q, q1⟩))
  have l : Ls W (W.put a u) := Ls.put mp
  have oth : ∀ {j : Nat} {x : Own}, i ≠ j → e[j]? = some (some (.own x)) → ∀ b, σ[j]? = some (some (.ref b)) → b ≠ a := fun {j x} hj z b zb e0 => by
    subst e0
    exact hj (h.apart i j o x b q z q1 zb)
  refine ⟨l, ⟨fun b => (h.mu b).trans (or_congr Iff.rfl (or_congr Iff.rfl ⟨?_, ?_⟩)), by rw [List.length_set]; exact h.len, fun j d z => ?_, fun j x z => ?_, fun j k x x' b z z' r r' => ?_, h.stl, fun n x z => ?_, h.nd, fun b x z h1 h2 => ?_, fun b z => ?_, fun b z => ?_, h.fresh, fun j c ns ds b z r => ?_⟩⟩
  · rintro ⟨j, x, z1, z2⟩
    by_cases hj : i = j
    · subst hj
      exact ⟨i, o', by rw [List.getElem?_set_self hl], z2⟩
    · exact ⟨j, x, by rw [List.getElem?_set_ne hj]; exact z1, z2⟩
  · rintro ⟨j, x, z1, z2⟩
    by_cases hj : i = j
    · subst hj
      exact ⟨i, o, q, z2⟩
    · rw [List.getElem?_set_ne hj] at z1
      exact ⟨j, x, z1, z2⟩
  · by_cases hj : i = j
    · subst hj
      rw [List.getElem?_set_self hl] at z
      cases z
    · rw [List.getElem?_set_ne hj] at z
      obtain ⟨v, z1, z2⟩ := h.val j d z
      exact ⟨v, z1, z2.ls l⟩
  · by_cases hj : i = j
    · subst hj
      rw [List.getElem?_set_self hl] at z
      cases z
      exact ⟨a, q1, sh, q3, q4, q5⟩
    · rw [List.getElem?_set_ne hj] at z
      obtain ⟨b, z1, z2, z3, z4, z5⟩ := h.own j x z
      exact ⟨b, z1, z2.put mp (oth hj z b z1), z3, z4, z5⟩
  · have un : ∀ {j : Nat} {x : Own}, (e.set i (some (.own o')))[j]? = some (some (.own x)) → ∃ y, e[j]? = some (some (.own y)) := fun {j x} z => by
      by_cases hj : i = j
      · subst hj; exact ⟨o, q⟩
      · rw [List.getElem?_set_ne hj] at z; exact ⟨x, z⟩
    obtain ⟨y, z⟩ := un z
    obtain ⟨y', z'⟩ := un z'
    exact h.apart j k y y' b z z' r r'
  · obtain ⟨b, z1, z2, z3⟩ := h.sto n x z
    refine ⟨b, z1, z2.put mp ?_, z3⟩
    rintro rfl
    exact q4 (List.mem_of_getElem? z1)
  · show upd W.H a u b = _
    rw [upd_ne ?_]
    · exact h.keep b x z h1 h2
    · rintro rfl
      rcases q5 with w | w
      · rw [w] at z; cases z
      · exact h2 w
  · obtain ⟨x, z1, z2⟩ := h.m0 b z
    exact ⟨x, by show upd W.H a u b = _; rw [upd_ne (show b ≠ a by rintro rfl; exact q3 z)]; exact z1, z2⟩
  · by_cases hb : b = a
    · subst hb; exact ⟨u, upd_same⟩
    · obtain ⟨x, z1⟩ := h.xs b z
      exact ⟨x, by show upd W.H a u b = _; rw [upd_ne hb]; exact z1⟩
  · by_cases hj : i = j
    · subst hj
      rw [List.getElem?_set_self hl] at z
      cases z
      obtain ⟨c', ns', ds', rfl⟩ := hin c ns ds rfl
      exact h.ins i c' ns' ds' b q r
    · rw [List.getElem?_set_ne hj] at z
      exact h.ins j c ns ds b z r
/-- a cell is written -/
theorem SF.wrS (h : SF F M0 σ e s W) {n : Nat} {o o' : Own} {a : Addr} {u : HO} (q : s[n]? = some o) (q1 : W.ρ[n]? = some a) (sh : Shows F.G (W.put a u) a o') : Ls W (W.put a u) ∧ SF F M0 σ e (s.set n o') (W.put a u) := by
  obtain ⟨a', q1', q2, q3⟩ := h.sto n o q
  rw [q1] at q1'
  cases q1'
  have hl : n < s.length := (List.getElem?_eq_some_iff.mp q).1
  have mr : a ∈ W.ρ := List.mem_of_getElem? q1
  have mp : W.Mu a := (h.mu a).mpr (.inr (.inl mr))
  have l : Ls W (W.put a u) := Ls.put mp
  refine ⟨l, ⟨h.mu, h.len, fun j d z => ?_, fun j x z => ?_, h.apart, by rw [List.length_set]; exact h.stl, fun k x z => ?_, h.nd, fun b x z h1 h2 => ?_, fun b z => ?_, fun b z => ?_, h.fresh, h.ins⟩⟩
  · obtain ⟨v, z1, z2⟩ := h.val j d z
    exact ⟨v, z1, z2.ls l⟩
  · obtain ⟨b, z1, z2, z3, z4, z5⟩ := h.own j x z
    exact ⟨b, z1, z2.put mp (fun w => z4 (w ▸ mr)), z3, z4, z5⟩
  · by_cases hk : n = k
    · subst hk
      rw [List.getElem?_set_self hl] at z
      cases z
      exact ⟨a, q1, sh, q3⟩
    · rw [List.getElem?_set_ne hk] at z
      obtain ⟨b, z1, z2, z3⟩ := h.sto k x z
      refine ⟨b, z1, z2.put mp ?_, z3⟩
      rintro rfl
      have e1 := List.getElem?_eq_some_iff.mp q1
      have e2 := List.getElem?_eq_some_iff.mp z1
      exact hk ((List.getElem_inj h.nd).mp (e1.2.trans e2.2.symm))
  · show upd W.H a u b = _
    rw [upd_ne (show b ≠ a by rintro rfl; exact h1 mr)]
    exact h.keep b x z h1 h2
  · obtain ⟨x, z1, z2⟩ := h.m0 b z
    exact ⟨x, by show upd W.H a u b = _; rw [upd_ne (show b ≠ a by rintro rfl; exact q3 z)]; exact z1, z2⟩
  · by_cases hb : b = a
    · subst hb; exact ⟨u, upd_same⟩
    · obtain ⟨x, z1⟩ := h.xs b z
      exact ⟨x, by show upd W.H a u b = _; rw [upd_ne hb]; exact z1⟩
end
end Wk

set_option Elab.async false
set_option linter.all false
set_option maxRecDepth 100000
set_option maxHeartbeats 4100000
/-! Statements. -/
namespace Wk
open PySem L2 PySem.Spec PyProof.Rows
def OutK (F : Frm) (M0 : Addr → Prop) (W : Wd) (K : Ends) : O → Prop
  | .nx e s => ∀ σ' W', Ls W W' → SF F M0 σ' e s W' → K.nx σ' W'.H
  | .rt rv s => ∀ v σ' e' W', Ls W W' → RvOk F M0 σ' e' s W' rv v → K.rt v W'.H
  | .bk e s => ∀ σ' W', Ls W W' → SF F M0 σ' e s W' → K.bk σ' W'.H
  | .ct e s => ∀ σ' W', Ls W W' → SF F M0 σ' e s W' → K.ct σ' W'.H
  | .ex c a s => ∀ σ' e' W' dd, Ls W W' → SF F M0 σ' e' s W' → ExR F.G W' c a dd → F.Wx (.ref (F.G.cA c)) dd W'.H
  | .no => False
def PkE (F : Frm) (M0 : Addr → Prop) (W : Wd) (r : RS Env) (Q : L2.St → Hp → Prop) : Prop := match r with
  | .ok e s => ∀ σ' W', Ls W W' → SF F M0 σ' e s W' → Q σ' W'.H
  | .ex c a s => ∀ σ' e' W' dd, Ls W W' → SF F M0 σ' e' s W' → ExR F.G W' c a dd → F.Wx (.ref (F.G.cA c)) dd W'.H
  | .no => False
def tS (F : Frm) (f : Env → Sto → O) : TS := fun K σ H => ∃ M0 e s W, W.H = H ∧ SF F M0 σ e s W ∧ OutK F M0 W K (f e s)
theorem PS_imp {X : Cx} {st : Stmt} {t t' : TS} (h : PS X st t) (k : ∀ D σ H, t' D σ H → t D σ H) : PS X st t' := ⟨fun pins s σ H D I q => h.run pins s σ H D I (k D σ H q)⟩
theorem PSs_imp {X : Cx} {st : List Stmt} {t t' : TS} (h : PSs X st t) (k : ∀ D σ H, t' D σ H → t D σ H) : PSs X st t' := ⟨fun pins s σ H D I q => h.run pins s σ H D I (k D σ H q)⟩
theorem PG_imp {X : Cx} {st : Expr} {t t' : TG} (h : PG X st t) (k : ∀ v σ H Q, t' v σ H Q → t v σ H Q) : PG X st t' := ⟨fun pins s σ H v u Q I r q => h.run pins s σ H v u Q I r (k v σ H Q q)⟩
section
variable {F : Frm} {M0 : Addr → Prop} {σ σ' : L2.St} {e e' : Env} {s : Sto} {W W' W1 : Wd} {K : Ends} {α : Type}
theorem OutK.mono {r : O} (h : OutK F M0 W K r) (l : Ls W W') : OutK F M0 W' K r := by
  cases r with
  | nx e s => exact fun σ' W2 l2 => h σ' W2 (l.trans l2)
  | rt v s => exact fun v σ' e' W2 l2 => h v σ' e' W2 (l.trans l2)
  | bk e s => exact fun σ' W2 l2 => h σ' W2 (l.trans l2)
  | ct e s => exact fun σ' W2 l2 => h σ' W2 (l.trans l2)
  | ex c a s => exact fun σ' e' W2 dd l2 => h σ' e' W2 dd (l.trans l2)
  | no => exact h
theorem PkE.mono {r : RS Env} {Q : L2.St → Hp → Prop} (h : PkE F M0 W r Q) (l : Ls W W') : PkE F M0 W' r Q := by
  cases r with
  | ok e s => exact fun σ' W2 l2 => h σ' W2 (l.trans l2)
  | ex c a s => exact fun σ' e' W2 dd l2 => h σ' e' W2 dd (l.trans l2)
  | no => exact h
theorem OutK.pk {r : RS α} {f : α → Sto → O} {k' : α → Sto → Wd → Prop} (h : OutK F M0 W K (r.toO f)) (hk : ∀ a s W1, Le W W1 → OutK F M0 W1 K (f a s) → k' a s W1) : Pk F M0 σ e W r k' := by
  cases r with
  | ok a s => exact fun W1 l => hk a s W1 l (OutK.mono h l.ls)
  | ex c a s => exact fun W1 dd l sf q => h σ e W1 dd l.ls sf q
  | no => exact h
theorem PkE.pk {r : RS α} {f : α → Sto → RS Env} {Q : L2.St → Hp → Prop} {k' : α → Sto → Wd → Prop} (h : PkE F M0 W (r.bind f) Q) (hk : ∀ a s W1, Le W W1 → PkE F M0 W1 (f a s) Q → k' a s W1) : Pk F M0 σ e W r k' := by
  cases r with
  | ok a s => exact fun W1 l => hk a s W1 l (PkE.mono h l.ls)
  | ex c a s => exact fun W1 dd l sf q => h σ e W1 dd l.ls sf q
  | no => exact h
theorem PkE.thn {r : RS Env} {f : Env → Sto → RS Env} {Q Q' : L2.St → Hp → Prop} (h : PkE F M0 W (r.bind f) Q) (hk : ∀ e s σ' W', Ls W W' → SF F M0 σ' e s W' → PkE F M0 W' (f e s) Q → Q' σ' W'.H) : PkE F M0 W r Q' := by
  cases r with
  | ok e s => exact fun σ' W1 l sf => hk e s σ' W1 l sf (PkE.mono h l)
  | ex c a s => exact h
  | no => exact h
theorem OutK.pkE {r : RS Env} {f : Env → Sto → O} {Q : L2.St → Hp → Prop} (h : OutK F M0 W K (r.toO f)) (hk : ∀ e s σ' W', Ls W W' → SF F M0 σ' e s W' → OutK F M0 W' K (f e s) → Q σ' W'.H) : PkE F M0 W r Q := by
  cases r with
  | ok e s => exact fun σ' W1 l sf => hk e s σ' W1 l sf (OutK.mono h l)
  | ex c a s => exact h
  | no => exact h
theorem Ls.same (hρ : W'.ρ = W.ρ) (hH : W'.H = W.H) (hm : ∀ a, W'.Mu a → W.Mu a) : Ls W W' := ⟨by rw [hρ]; exact List.prefix_refl _, fun _ _ q _ => by rw [hH]; exact q, fun a z => .inl (hm a z)⟩
/-- a value is let go -/
theorem RvOk.drop {rv : Rv} {v : V} (h : RvOk F M0 σ e s W rv v) : ∃ W', W'.H = W.H ∧ Ls W W' ∧ SF F M0 σ e s W' := by
  cases rv with
  | val d => exact ⟨W, rfl, Ls.refl, h.1⟩
  | fr o =>
    obtain ⟨p, rfl, sf, sh, nm, _, _⟩ := h
    have l : Ls W (W.re M0 σ e) := ⟨List.prefix_refl _, fun _ _ q _ => q, fun a z => by
      rcases z with z | z | z
      · exact .inl ((sf.mu a).mpr (.inl (.inl z)))
      · exact .inl ((sf.mu a).mpr (.inr (.inl z)))
      · exact .inl ((sf.mu a).mpr (.inr (.inr z)))⟩
    have key : Ls W (W.re M0 σ e) ∧ SF F M0 σ e s (W.re M0 σ e) := by
      refine sf.re (fun _ z => .inl z) sf.len (fun i u q => ?_) sf.apart (fun i d q => ?_) sf.ins
      · obtain ⟨a, q1, q2, q3, q4, q5⟩ := sf.own i u q
        exact ⟨a, q1, q2, fun z => q3 (.inl z), q4, q5, (sf.mu a).mpr (.inr (.inr ⟨i, u, q, q1⟩))⟩
      · obtain ⟨w, q1, q2⟩ := sf.val i d q
        exact ⟨w, q1, q2.ls l⟩
    exact ⟨W.re M0 σ e, rfl, key.1, key.2⟩
end
/-! ### the tie -/
def swp (C : Ck) (ts vs : List Expr) : Option (Option (List Str)) :=
  if !(ts.length == 2 || ts.length == 3) || vs.length != ts.length then some none
  else if vs.any fun | .Starred .. => true | _ => false then some none
  else
    let line := ((ts.head?).map fun t => t.pos.line).getD 0
    let names := ts.filterMap fun
      | .Name id pos => if C.sc.names.lookup id == some .local && pos.line == line then some id else none
      | _ => none
    if names.length != ts.length || names.eraseDups.length != names.length then some none
    else if vs.all (foldedForSure 8) then some none
    else if vs.all (constantsAlone 8) then none
    else some (some names)
/-- the stores of an assignment stand in their order -/
def plainTg (C : Ck) : Expr → Expr → Bool
  | .Tuple ts _ _, .Tuple vs _ _ => match swp C ts vs with
    | some none => true
    | _ => false
  | .List _ _, _ => false
  | _, _ => true
structure XSt (F : Frm) (cl : CallT) (C : Ck) (X : Cx) : Prop extends XOk F cl C X where
  fn : ∀ x, X.fn x = true
  po : PassesOwn (model X.prog X.w) X.A X.env X.xe
section
variable {F : Frm} {cl : CallT} {C : Ck} {X : Cx} {x y z tg iter : Expr} {fa fb fc : Fv} {pos : Pos}
theorem swp_ok (hX : XOk F cl C X) {ts vs : List Expr} {k k2 : Nat} {p p2 : Pos} {r : Option (List Str)} (h : swp C ts vs = some r) : swappedStores [.Tuple ts k p] (.Tuple vs k2 p2) X.env = pure r := by
  have hk : X.env.blockKind = .function := by
    first | exact hX.kind | (unfold PySem.Env.blockKind; rw [hX.kind]; rfl)
  have hkind : ∀ id, X.env.kindOf id = C.sc.names.lookup id := fun id => by rw [← hX.sc]; rfl
  unfold swp at h
  unfold swappedStores
  simp only [hk, hkind, show (ScopeKind.function != ScopeKind.function) = false by decide, Bool.or_false]
  split at h
  · rename_i c
    cases h
    exact if_pos c
  rename_i c1
  refine (if_neg c1).trans ?_
  split at h
  · rename_i c
    cases h
    exact if_pos c
  rename_i c2
  refine (if_neg c2).trans ?_
  dsimp only at h
  split at h
  · rename_i c
    cases h
    exact if_pos c
  rename_i c3
  refine (if_neg c3).trans ?_
  split at h
  · rename_i c
    cases h
    exact if_pos c
  rename_i c4
  refine (if_neg c4).trans ?_
  split at h
  · cases h
  rename_i c5
  cases h
  exact if_neg c5
theorem plain_sw (hX : XOk F cl C X) {t v : Expr} (h : plainTg C t v = true) : swappedStores [t] v X.env = pure none := by
  cases t <;> try rfl
  · cases h
  · cases v <;> try rfl
    simp only [plainTg] at h
    split at h
    · exact swp_ok hX ‹_›
    · cases h
end
end Wk

set_option Elab.async false
set_option linter.all false
set_option maxRecDepth 100000
set_option maxHeartbeats 4100000
/-! Statements: the rules. -/
namespace Wk
open PySem L2 PySem.Spec PyProof.Rows
def isComp : Expr → Bool
  | .ListComp .. => true
  | .SetComp .. => true
  | .DictComp .. => true
  | _ => false
def chkSb (k i : Ex) (C : Ck) (y : Expr) : Bool := match y with
  | .Subscript a z _ => (match k with | .loc _ => true | _ => false) && (match a with | .Name _ _ => true | _ => false) && chkE k C a && chkE i C z
  | _ => false
mutual
def chkT : Tg → Ck → Expr → Bool
  | .nm i, C, y => tgNm C C.sc i y
  | .at _ _, _, _ => false
  | .sb k i, C, y => chkSb k i C y
  | .tp ts, C, y => match y with
    | .Tuple ys _ _ => chkTs ts C ys
    | _ => false
def chkTs : Tgs → Ck → List Expr → Bool
  | .nil, _, ys => ys.isEmpty
  | .cons t ts, C, ys => match ys with
    | y :: ys => chkT t C y && chkTs ts C ys
    | [] => false
end
theorem chkSb_inv {k i : Ex} {C : Ck} {y : Expr} (h : chkSb k i C y = true) : ∃ j n pn z p, k = .loc j ∧ y = .Subscript (.Name n pn) z p ∧ chkE (.loc j) C (.Name n pn) = true ∧ chkE i C z = true := by
  unfold chkSb at h
  split at h
  · rename_i a z p
    simp only [Bool.and_eq_true] at h
    obtain ⟨⟨⟨h1, h2⟩, h3⟩, h4⟩ := h
    split at h1
    · split at h2
      · exact ⟨_, _, _, _, _, rfl, rfl, h3, h4⟩
      · cases h2
    · cases h1
  · cases h
theorem chkT_plain {t : Tg} {C : Ck} {y : Expr} (h : chkT t C y = true) : ∀ z p, y ≠ .Starred z p := by
  rintro z p rfl
  cases t with
  | nm i => simp only [chkT, tgNm] at h; cases h
  | «at» o f => simp only [chkT] at h; cases h
  | sb k i =>
    simp only [chkT] at h
    obtain ⟨_, _, _, _, _, _, e, _⟩ := chkSb_inv h
    cases e
  | tp ts => simp only [chkT] at h; cases h
theorem assignEach_cons {t : Tg} {C : Ck} {y : Expr} (h : chkT t C y = true) (ys : List Expr) (env : PySem.Env) : assignEach (y :: ys) env = (false, assign y env) :: assignEach ys env := by
  have := chkT_plain h
  cases y <;> first | rfl | exact absurd rfl (this _ _)
theorem chkTs_len : ∀ {ts : Tgs} {C : Ck} {ys : List Expr}, chkTs ts C ys = true → ys.length = tgsLen ts
  | .nil, C, ys, h => by
    simp only [chkTs] at h
    rw [List.isEmpty_iff.mp h]
    rfl
  | .cons t ts, C, ys, h => by
    simp only [chkTs] at h
    split at h
    · rename_i y ys
      simp only [Bool.and_eq_true] at h
      show ys.length + 1 = _
      rw [chkTs_len h.2]
      rfl
    · cases h
def namesOf : List Expr → List Str := fun l => l.filterMap fun | .Name x _ => some x | _ => none
mutual
def chkS : Sx → Ck → Stmt → Bool
  | .asg _ t a, C, .Assign [y] x _ => chkE a C x && ((chkT t C y && plainTg C y x) || (match t, y with
    | .at (.loc i) f, .Attribute (.Name m p) n _ => chkE (.loc i) C (.Name m p) && decide (C.nm f = n)
    | _, _ => false))
  | .par ts es, C, .Assign [.Tuple ys _ _] (.Tuple xs _ _) _ => tgNms C C.sc ts ys && chkEs es C xs && decide ts.Nodup && (match swp C ys xs with
    | some (some l) => decide (l = namesOf ys)
    | _ => false) && decide (xs.length = ys.length) && decide (ys.length = 2 ∨ ys.length = 3) && ys.all (fun y => match y with | .Name x _ => decide (C.sc.names.lookup x = some .local) | _ => false)
  | .aug i op a, C, .AugAssign y o x _ => tgNm C C.sc i y && decide (op = o) && decide (op = .Add ∨ op = .Sub) && chkE a C x
  | .exp a, C, .Expr x _ => chkE a C x && !isComp x
  | .app i a, C, .Expr (.Call (.Attribute (.Name n p) m ap) [x] [] cp) _ => chkE (.loc i) C (.Name n p) && decide (m = ("append" : Str)) && chkE a C x && decide (ap.endLine = cp.line)
  | .ret a, C, .Return (some x) _ => chkE a C x
  | .retn, _, .Return none _ => true
  | .ife c a b, C, .If x ys zs _ => chkE c C x && chkB a C ys && chkB b C zs
  | .fr t tp it b, C, .For y x ys [] _ => chkE it C x && itOk it y && tgOk C C.sc t tp y && chkB b C ys
  | .whl c b, C, .While x ys [] _ => chkE c C x && chkB b C ys
  | .rse _ _, _, _ => true
  | .pass, _, .Pass _ => true
  | .brk, _, .Break _ => true
  | .cont, _, .Continue _ => true
  | .mv _ x, C, st => chkS x C st
  | _, _, _ => false
def chkB : Blk → Ck → List Stmt → Bool
  | .nil, _, [] => true
  | .cons x b, C, st :: sts => chkS x C st && chkB b C sts
  | _, _, _ => false
end
section
variable {F : Frm} {cl : CallT} {C : Ck} {X : Cx} {x y z tg iter : Expr} {fa fb fc : Fv} {pos : Pos}
/-! ### what is done with a value -/
def asgN (T : IT) (own : Bool) (i : Nat) : Rv → Env → Sto → O := fun rv e s => match own, rv with
  | true, .fr o => .nx (e.set i (some (.own o))) s
  | _, rv => match frz T rv with
    | some d => .nx (e.set i (some (.val d))) s
    | none => .no
theorem asgN_ok {M0 : Addr → Prop} {σ : L2.St} {e : Env} {s : Sto} {W : Wd} {K : Ends} {own : Bool} {i : Nat} {rv : Rv} {v : V} (h : RvOk F M0 σ e s W rv v) (q : OutK F M0 W K (asgN F.G.T own i rv e s)) : K.nx (σ.set i (some v)) W.H := by
  have slow : OutK F M0 W K (match frz F.G.T rv with
    | some d => .nx (e.set i (some (.val d))) s
    | none => .no) → K.nx (σ.set i (some v)) W.H := fun q => by
    cases hf : frz F.G.T rv with
    | none => rw [hf] at q; exact q.elim
    | some d =>
      rw [hf] at q
      obtain ⟨W2, eH, l2, sf2, r2⟩ := h.frz hf
      obtain ⟨W3, eH3, l3, sf3⟩ := sf2.setV (i := i) r2
      have := q _ W3 (l2.ls.trans l3) sf3
      rw [eH3, eH] at this
      exact this
  cases own with
  | false => exact slow q
  | true =>
    cases rv with
    | val d => exact slow q
    | fr o =>
      obtain ⟨p, rfl, sf, sh, nm, hHe, hni⟩ := h
      obtain ⟨W3, eH3, l3, sf3⟩ := sf.setO (i := i) sh nm hHe hni
      have := q _ W3 l3 sf3
      rw [eH3] at this
      exact this
/-- into a name -/
theorem tAsg_name {g : Rv → Env → Sto → O} {i : Nat} {own : Bool} (hg : ∀ rv e s, g rv e s = asgN F.G.T own i rv e s) {K : Ends} {σ : L2.St} {H : Hp} (h : tS F (fun e s => (fa e s).toO fun rv s => g rv e s) K σ H) : tAsg (tV F fa) (gName i) K σ H := by
  obtain ⟨M0, e, s, W, eW, sf, q⟩ := h
  exact ⟨M0, e, s, W, eW, sf, q.pk fun rv s1 W1 l1 q1 v ok => asgN_ok (own := own) ok (by rw [← hg]; exact q1)⟩
/-! ### targets -/
def tG (F : Frm) (f : D → Env → Sto → RS Env) : TG := fun v σ H Q => ∃ M0 e s W d, W.H = H ∧ SF F M0 σ e s W ∧ Rep F.G W d v ∧ PkE F M0 W (f d e s) Q
def tGs (F : Frm) (f : List D → Env → Sto → RS Env) : TGs := fun vs σ H Q => ∃ M0 e s W ds, W.H = H ∧ SF F M0 σ e s W ∧ Reps F.G W ds vs ∧ PkE F M0 W (f ds e s) Q
theorem PGs_imp {X : Cx} {st : List Expr} {t t' : TGs} (h : PGs X st t) (k : ∀ v σ H Q, t' v σ H Q → t v σ H Q) : PGs X st t' := ⟨fun pins s σ H v u Q I r q => h.run pins s σ H v u Q I r (k v σ H Q q)⟩
theorem stT : ∀ {ts : Tgs} {ys : List Expr}, chkTs ts C ys = true → ∀ env : PySem.Env, (assignEach ys env).findIdx? (·.1) = none ∧ (assignEach ys env).length = ys.length
  | .nil, ys, h, env => by
    simp only [chkTs] at h
    rw [List.isEmpty_iff.mp h]
    exact ⟨rfl, rfl⟩
  | .cons t ts, ys, h, env => by
    simp only [chkTs] at h
    split at h
    · rename_i y ys
      simp only [Bool.and_eq_true] at h
      obtain ⟨ih, il⟩ := stT h.2 env
      rw [assignEach_cons h.1]
      refine ⟨?_, by rw [List.length_cons, il]; rfl⟩
      rw [List.findIdx?_eq_none_iff] at ih ⊢
      intro a ha
      rcases List.mem_cons.mp ha with rfl | ha
      · rfl
      · exact ih a ha
    · cases h
theorem loc_of (hX : XSt F cl C X) (n : Str) (h : C.sc.names.lookup n = some .local ∨ C.sc.names.lookup n = some .cell) : L2.Loc X.env.scope n ∧ (X.fn n = true ∨ X.env.scope.names.lookup n = some .local) := by
  refine ⟨?_, .inl (hX.fn n)⟩
  unfold L2.Loc
  rw [hX.sc]
  exact h
theorem ixN_lt {n : Nat} {j : Int} {p : Nat} (h : ixN n j = some p) : p < n := (ixN_seq h).2.1
mutual
theorem tg_all (hX : XSt F cl C X) : ∀ {t : Tg} {y : Expr}, chkT t C y = true → PG X y (tG F (tgA F.G.T cl t))
  | .nm i, y, h => by
    simp only [chkT] at h
    refine PG_imp (tgNm_ok hX.nd hX.N h (loc_of hX)) fun v σ H Q ⟨M0, e, s, W, d, eW, sf, r, q⟩ => ?_
    obtain ⟨W3, eH3, l3, sf3⟩ := sf.setV (i := i) r
    have := q _ W3 l3 sf3
    rw [eH3, eW] at this
    exact this
  | .at o f, y, h => by simp only [chkT] at h; cases h
  | .sb o i, y, h => by
    simp only [chkT] at h
    obtain ⟨k, n, pn, z, p, rfl, rfl, h1, h2⟩ := chkSb_inv h
    have h1' := h1
    simp only [chkE, Bool.and_eq_true, decide_eq_true_eq] at h1'
    obtain ⟨⟨⟨g1, g2⟩, g3⟩, g4⟩ := h1'
    have base := pv (X := X) (pos := pn) k (x := n) (by rw [hX.N]; exact g1) (vis_of hX.sc g2) (ne_of_bne g3) (ne_of_bne g4)
    have hz := ev_ok (cl := cl) i hX.toXOk h2
    refine PG_imp (pg_sub base hz.b set_list (fun v => ?_)) fun v σ H Q ⟨M0, e, s, W, d, eW, sf, r, q⟩ => ?_
    · cases z <;> first | rfl | skip
      all_goals (cases i <;> simp [chkE] at h2)
    · subst eW
      unfold tgA at q
      split at q
      · rename_i ds0 e0
        obtain ⟨a, q1, q2, q3, q4, q5⟩ := sf.own k _ e0
        refine ⟨.ref a, q1, M0, e, s, W, rfl, sf, q.pk fun j s1 W1 l1 q' w sf1 lw => ?_⟩
        rw [e0] at q'
        split at q'
        · rename_i j ds ez
          cases ez
          cases lw.int_inv
          cases hp : ixN ds0.length j with
          | none => rw [hp] at q'; exact q'.elim
          | some p =>
            rw [hp] at q'
            obtain ⟨vs, z1, z2⟩ := q2.le l1 q4
            refine ⟨a, vs, j, p, rfl, rfl, z1, by rw [← z2.length]; exact hp, ?_⟩
            have mp : W1.Mu a := (sf1.mu a).mpr (.inr (.inr ⟨k, _, e0, q1⟩))
            have l2 : Ls W1 (W1.put a (.lst (vs.set p v))) := Ls.put mp
            obtain ⟨l3, sf3⟩ := sf1.wr (u := .lst (vs.set p v)) (o' := .lst (ds0.set p d)) e0 q1 ⟨vs.set p v, upd_same, ((z2.ls l2).set p ((r.le l1).ls l2))⟩ nofun
            exact q' σ _ l3 sf3
        · exact q'.elim
      · rename_i n e0
        obtain ⟨w0, q1, q2⟩ := sf.val k _ e0
        have q2' := q2
        simp only [Rep] at q2'
        obtain ⟨a, rfl, q3⟩ := q2'
        refine ⟨.ref a, q1, M0, e, s, W, rfl, sf, q.pk fun j s1 W1 l1 q' w sf1 lw => ?_⟩
        split at q'
        · rename_i j ds ez
          cases lw.int_inv
          cases hp : ixN ds.length j with
          | none => rw [hp] at q'; exact q'.elim
          | some p =>
            rw [hp] at q'
            obtain ⟨a', z0, z3, vs, z1, z2⟩ := sf1.at (q2.le l1) ez
            cases z0
            refine ⟨a, vs, j, p, rfl, rfl, z1, by rw [← z2.length]; exact hp, ?_⟩
            have mp : W1.Mu a := (sf1.mu a).mpr (.inr (.inl (List.mem_of_getElem? z3)))
            have l2 : Ls W1 (W1.put a (.lst (vs.set p v))) := Ls.put mp
            obtain ⟨l3, sf3⟩ := sf1.wrS (u := .lst (vs.set p v)) (o' := .lst (ds.set p d)) ez z3 ⟨vs.set p v, upd_same, ((z2.ls l2).set p ((r.le l1).ls l2))⟩
            exact q' σ _ l3 sf3
        · exact q'.elim
      · exact q.elim
  | .tp ts, y, h => by
    simp only [chkT] at h
    split at h
    case h_2 => cases h
    rename_i ys k p
    obtain ⟨st1, st2⟩ := stT h X.env
    refine PG_imp (pg_tup hX.calm (tgs_all hX h) (n := ys.length) st2 st1) fun v σ H Q ⟨M0, e, s, W, d, eW, sf, r, q⟩ => ?_
    unfold tgA at q
    split at q
    · rename_i ds
      split at q
      · rename_i hl
        obtain ⟨a, xs, rfl, h1, h2⟩ := r.sqT
        rw [← hX.K, eW] at h1
        exact ⟨a, xs, rfl, h1, by rw [← h2.length, hl, chkTs_len h], M0, e, s, W, ds, eW, sf, h2, q⟩
      · exact q.elim
    · exact q.elim
theorem tgs_all (hX : XSt F cl C X) : ∀ {ts : Tgs} {ys : List Expr}, chkTs ts C ys = true → PGs X ys (tGs F (tgAs F.G.T cl ts))
  | .nil, ys, h => by
      simp only [chkTs] at h
      rw [List.isEmpty_iff.mp h]
      refine PGs_imp pgs_nil fun v σ H Q ⟨M0, e, s, W, ds, eW, sf, r, q⟩ => ?_
      cases ds with
      | nil =>
        simp only [Reps] at r
        rw [← eW]
        exact ⟨r, q σ W Ls.refl sf⟩
      | cons _ _ => exact q.elim
  | .cons t ts, ys, h => by
    simp only [chkTs] at h
    split at h
    case h_2 => cases h
    case h_1 y ys =>
      simp only [Bool.and_eq_true] at h
      refine PGs_imp (pgs_cons (tg_all hX h.1) (tgs_all hX h.2) (by rw [assignEach_cons h.1]; rfl)) fun v σ H Q ⟨M0, e, s, W, ds, eW, sf, r, q⟩ => ?_
      cases ds with
      | nil => exact q.elim
      | cons d ds =>
        simp only [Reps] at r
        obtain ⟨w, ws, rfl, r1, r2⟩ := r
        exact ⟨w, ws, rfl, M0, e, s, W, d, eW, sf, r1, PkE.thn (f := fun e s => tgAs F.G.T cl ts ds e s) q fun e2 s2 σ2 W2 l2 sf2 q2 => ⟨M0, e2, s2, W2, ds, rfl, sf2, r2.ls l2, q2⟩⟩
end
end
end Wk

set_option Elab.async false
set_option linter.all false
set_option maxRecDepth 100000
set_option maxHeartbeats 4100000
/-! All statements. -/
namespace Wk
open PySem L2 PySem.Spec PyProof.Rows
section
variable {F : Frm} {cl : CallT} {C : Ck} {X : Cx} {x y z tg iter : Expr} {fa fb fc : Fv} {pos : Pos}
theorem swp_of (hX : XOk F cl C X) (t v : Expr) (n : Nat) (h : isComp v = false ∨ ∀ z p, t ≠ .Name z p) : swapsWithSole [t] v n X.env = pure false := by
  cases v <;> first | rfl | skip
  all_goals
    rcases h with h | h
    · cases h
    · cases t <;> first | rfl | exact absurd rfl (h _ _)
/-- target = value, the value kept -/
theorem s_asg (hX : XSt F cl C X) {t : Tg} (he : PE X x (tV F fa)) (hy : chkT t C y = true) (hp : plainTg C y x = true) (hc : isComp x = false ∨ ∀ z p, y ≠ .Name z p) :
    PS X (.Assign [y] x pos) (tS F fun e s => (fa e s).toO fun rv s => match frz F.G.T rv with
      | some d => (tgA F.G.T cl t d e s).toO fun e s => .nx e s
      | none => .no) := by
  refine PS_imp (ps_asg he (tg_all hX hy) (swp_of hX.toXOk y x _ hc) (plain_sw hX.toXOk hp) (by rw [assignEach_cons hy]; rfl)) fun K σ H ⟨M0, e, s, W, eW, sf, q⟩ => ⟨M0, e, s, W, eW, sf, q.pk fun rv s1 W1 l1 q1 v ok => ?_⟩
  cases hf : frz F.G.T rv with
  | none => rw [hf] at q1; exact q1.elim
  | some d =>
    rw [hf] at q1
    obtain ⟨W2, eH, l2, sf2, r2⟩ := ok.frz hf
    exact ⟨M0, e, s1, W2, d, eH, sf2, r2, OutK.pkE (f := fun e s => .nx e s) (OutK.mono q1 l2.ls) fun e2 s2 σ2 W3 l3 sf3 q3 => q3 σ2 W3 Ls.refl sf3⟩
/-- name = value -/
theorem s_asgN (hX : XSt F cl C X) {i : Nat} {own : Bool} {g : Rv → Env → Sto → O} (hg : ∀ rv e s, g rv e s = asgN F.G.T own i rv e s) (he : PE X x (tV F fa)) (hy : tgNm C C.sc i y = true) (hc : isComp x = false) :
    PS X (.Assign [y] x pos) (tS F fun e s => (fa e s).toO fun rv s => g rv e s) := by
  have hy' : chkT (.nm i) C y = true := hy
  refine PS_imp (ps_asg he (tgNm_ok hX.nd hX.N hy (loc_of hX)) (swp_of hX.toXOk y x _ (.inl hc)) ?_ (by rw [assignEach_cons hy']; rfl)) fun K σ H h => tAsg_name hg h
  cases y <;> first | rfl | (simp only [tgNm] at hy; cases hy)
/-- name = [..] -/
theorem s_asgL (hX : XSt F cl C X) {own0 : Bool} {i : Nat} {g : Rv → Env → Sto → O} (hg : ∀ rv e s, g rv e s = asgN F.G.T own0 i rv e s) (hy : tgNm C C.sc i y = true) {tests : List Expr} {scope : Scope} {own : List (Str × Nat)} {t : List Nat} {tp : Bool} {vs : List Nat} {gi : Env → Sto → RS (List D)} {ft : Env → Sto → RS Bool} {ge : Env → Sto → RS D} {p : Pos}
    (hi : PI X tg iter (tJ F gi)) (hb : blkC C.N C.sc scope own = true) (hvs : own.map (·.2) = vs) (htg : tgOk C scope t tp tg = true) (hin : t.all (fun i => vs.contains i) = true)
    (ht : ∀ (s : Shared) (H : Hp) (Cc : Addr) (cls : List (Str × Addr)) (fp : List Addr), PTs (X.blk s H scope (compEnvC scope cls Cc X.env) fp) tests (tT F.dry ft))
    (he : ∀ (s : Shared) (H : Hp) (Cc : Addr) (cls : List (Str × Addr)) (fp : List Addr), PE (X.blk s H scope (compEnvC scope cls Cc X.env) fp) x (tD F.dry ge)) (hs : ∀ v, foldedSetIterable iter X.env v = pure v) :
    PS X (.Assign [y] (.ListComp x [⟨tg, iter, tests, 0⟩] scope p) pos) (tS F fun e s => ((gi e s).bind fun items s => if szOk items.length && noOwn e vs then (lcGo (lcStep ft ge t tp (wipeE e vs)) items s []).bind fun acc s => .ok (.fr (.lst acc)) s else .no).toO fun rv s => g rv e s) := by
  have hy' : chkT (.nm i) C y = true := hy
  have pe := s_lc (pos := p) hX.toXOk hi hb hvs htg hin ht he hs
  cases hsw : (X.env.blockKind == .function && (match y with | .Name t q => X.env.kindOf t == some .local && q.line == p.line && !(scope.names.any fun (n, k) => n == t && (k == .local || k == .cell)) | _ => false)) with
  | false =>
    have e1 : swapsWithSole [y] (.ListComp x [⟨tg, iter, tests, 0⟩] scope p) pos.line X.env = pure false := by
      cases y <;> try rfl
      rename_i n q
      show (pure _ : Sem Bool) = _
      rw [← hsw]
      simp only [Bool.and_assoc]
      rfl
    refine PS_imp (ps_asg pe (tgNm_ok hX.nd hX.N hy (loc_of hX)) e1 ?_ (by rw [assignEach_cons hy']; rfl)) fun K σ H h => tAsg_name hg h
    cases y <;> first | rfl | (simp only [tgNm] at hy; cases hy)
  | true =>
    cases y <;> try (simp only [tgNm] at hy; cases hy; done)
    rename_i n q
    have hloc : X.env.scope.names.lookup n = some .local := by
      simp only [Bool.and_eq_true, beq_iff_eq] at hsw
      exact hsw.2.1.1
    have hn : X.N[i]? = some n := by
      simp only [tgNm, Bool.and_eq_true, decide_eq_true_eq] at hy
      rw [hX.N]
      exact hy.1
    refine PS_imp (ps_setLc hX.calm hX.nd hn hloc ?_ hi (lc_blk hX.toXOk hb) (lc_tg hX.toXOk htg) ht he hs) fun K σ H h => ?_
    · show (pure _ : Sem Bool) = _
      rw [← hsw]
      simp only [Bool.and_assoc]
      rfl
    · have h2 := tAsg_name (fa := fun e s => (gi e s).bind fun items s => if szOk items.length && noOwn e vs then (lcGo (lcStep ft ge t tp (wipeE e vs)) items s []).bind fun acc s => .ok (.fr (.lst acc)) s else .no) hg h
      rw [hvs]
      exact lc_imp hX.toXOk hin h2
/-- self.f = value -/
theorem putF_put {G : GS} {W : Wd} : ∀ {ns : List Nat} {ds : List D} {vs : List V} {f : Nat} {d : D} {v : V}, Reps G W ds vs → ns.length = vs.length → Rep G W d v → (∀ g ∈ ns, G.T.names g = G.T.names f → g = f) →
    ∃ vs', putF (G.T.names f) v ((ns.map G.T.names).zip vs) = ((putN ns ds f d).1.map G.T.names).zip vs' ∧ (putN ns ds f d).1.length = vs'.length ∧ Reps G W (putN ns ds f d).2 vs'
  | [], ds, vs, f, d, v, r, e, h, _ => by
    have : vs = [] := List.eq_nil_of_length_eq_zero e.symm
    subst this
    exact ⟨[v], rfl, rfl, .cons h .nil⟩
  | k :: ns, [], vs, f, d, v, r, e, h, _ => by
    simp only [Reps] at r
    subst r
    cases e
  | k :: ns, d0 :: ds, vs, f, d, v, r, e, h, inj => by
    simp only [Reps] at r
    obtain ⟨w, ws, rfl, r1, r2⟩ := r
    unfold putN
    by_cases hk : k = f
    · subst hk
      rw [if_pos rfl]
      refine ⟨v :: ws, ?_, e, .cons h r2⟩
      rw [List.map_cons, List.zip_cons_cons, List.zip_cons_cons]
      unfold putF
      rw [if_pos rfl]
    · rw [if_neg hk]
      obtain ⟨vs', q1, q2, q3⟩ := putF_put (ns := ns) r2 (Nat.succ.inj e) h fun g hg => inj g (List.mem_cons_of_mem _ hg)
      refine ⟨w :: vs', ?_, congrArg Nat.succ q2, .cons r1 q3⟩
      rw [List.map_cons, List.zip_cons_cons]
      unfold putF
      rw [if_neg fun z => hk (inj k List.mem_cons_self z), q1, List.map_cons, List.zip_cons_cons]
theorem putN_mem : ∀ {ns : List Nat} {ds : List D} {f : Nat} {d : D} {g : Nat}, g ∈ (putN ns ds f d).1 → g ∈ ns ∨ g = f
  | [], ds, f, d, g, h => by
    simp only [putN, List.mem_singleton] at h
    exact .inr h
  | k :: ns, [], f, d, g, h => by
    simp only [putN, List.mem_singleton] at h
    exact .inr h
  | k :: ns, d0 :: ds, f, d, g, h => by
    unfold putN at h
    split at h
    · exact .inl h
    · rcases List.mem_cons.mp h with rfl | h
      · exact .inl List.mem_cons_self
      · exact (putN_mem h).imp (List.mem_cons_of_mem _) id
theorem s_fld (hX : XSt F cl C X) {i f : Nat} {n m : Str} {p p2 : Pos} (hm : C.nm f = n) (h : chkE (.loc i) C (.Name m p) = true) (he : PE X x (tV F fa)) :
    PS X (.Assign [.Attribute (.Name m p) n p2] x pos) (tS F fun e s => (fa e s).toO fun rv s => match frz F.G.T rv with
      | some d => (tgA F.G.T cl (.at (.loc i) f) d e s).toO fun e s => .nx e s
      | none => .no) := by
  subst hm
  rw [hX.nm]
  simp only [chkE, Bool.and_eq_true, decide_eq_true_eq] at h
  obtain ⟨⟨⟨h1, h2⟩, h3⟩, h4⟩ := h
  have base := pv (X := X) (pos := p) i (x := m) (by rw [hX.N]; exact h1) (vis_of hX.sc h2) (ne_of_bne h3) (ne_of_bne h4)
  refine PS_imp (ps_fld base he (swp_of hX.toXOk (.Attribute (.Name m p) (F.G.T.names f) p2) x pos.line (.inr nofun))) fun K σ H ⟨M0, e, s, W, eW, sf, q⟩ => ⟨M0, e, s, W, eW, sf, q.pk fun rv s1 W1 l1 q1 v ok => ?_⟩
  cases hf : frz F.G.T rv with
  | none => rw [hf] at q1; exact q1.elim
  | some d =>
    rw [hf] at q1
    obtain ⟨W2, eH, l2, sf2, r2⟩ := ok.frz hf
    have q2 := OutK.mono q1 l2.ls
    dsimp only at q2
    unfold tgA at q2
    split at q2
    · rename_i c ns ds e0
      split at q2
      · rename_i hc
        obtain ⟨hc1, hc2⟩ := bnd hc
        obtain ⟨a, z1, sh, z3, z4, z5⟩ := sf2.own i _ e0
        obtain ⟨dx, vs, y1, y2, y3, ci, hci, sub⟩ := sh
        have hff : f ∈ ci.flds := by
          unfold fldOk at hc1
          rw [hci] at hc1
          simpa using hc1
        obtain ⟨k1, k2⟩ := hX.clk.cls c ci hci
        have inj : ∀ g ∈ ns, F.G.T.names g = F.G.T.names f → g = f := fun g hg => hX.clk.inj c ci g f hci (sub g hg)
        obtain ⟨vs', w1, w2, w3⟩ := putF_put y3 y2 r2 inj
        have mp : W2.Mu a := (sf2.mu a).mpr (.inr (.inr ⟨i, _, e0, z1⟩))
        have l3 : Ls W2 (W2.put a (.ins (F.G.cA c) dx (((putN ns ds f d).1.map F.G.T.names).zip vs'))) := Ls.put mp
        obtain ⟨l4, sf4⟩ := sf2.wr (u := .ins (F.G.cA c) dx (((putN ns ds f d).1.map F.G.T.names).zip vs')) (o' := .ins c (putN ns ds f d).1 (putN ns ds f d).2) e0 z1
          ⟨dx, vs', upd_same, w2, w3.ls l3, ci, hci, fun g hg => (putN_mem hg).elim (sub g) fun z => z ▸ hff⟩ (fun _ _ _ _ => ⟨_, _, _, rfl⟩)
        refine ⟨.ref a, z1, a, F.G.cA c, dx, _, rfl, by rw [← eH]; exact y1, k1, k2 f hff, ?_, ?_⟩
        · rw [List.length_zip, List.length_map, y2, Nat.min_self, ← y2]
          have := of_decide_eq_true hc2
          omega
        · rw [w1, ← eH]
          exact q2 σ _ l4 sf4
      · exact q2.elim
    · exact q2.elim
/-- an expression whose value is let go -/
theorem s_exp (hX : XSt F cl C X) (he : PE X x (tV F fa)) (hc : isComp x = false) : PS X (.Expr x pos) (tS F fun e s => (fa e s).toO fun _ s => .nx e s) := by
  refine PS_imp (ps_expr he (by cases x <;> first | rfl | cases hc)) fun K σ H ⟨M0, e, s, W, eW, sf, q⟩ => ⟨M0, e, s, W, eW, sf, OutK.pk (f := fun _ s => .nx e s) q fun rv s1 W1 l1 q1 v ok => ?_⟩
  obtain ⟨W2, eH, l2, sf2⟩ := ok.drop
  have := q1 σ W2 l2 sf2
  rw [eH] at this
  exact this
theorem s_app (hX : XSt F cl C X) {i : Nat} {n : Str} {p ap cp : Pos} {g : Env → Sto → RS D} (h : chkE (.loc i) C (.Name n p) = true) (ha : PE X x (tD F g)) (st : starEach [x] X.env = (false, eval x X.env) :: starEach [] X.env) (hl : ap.endLine = cp.line) :
    PS X (.Expr (.Call (.Attribute (.Name n p) "append" ap) [x] [] cp) pos) (tS F fun e s => match e[i]? with
      | some (some (.own (.lst ds))) => (g e s).toO fun d s => if szOk ds.length then .nx (e.set i (some (.own (.lst (ds ++ [d]))))) s else .no
      | _ => .no) := by
  simp only [chkE, Bool.and_eq_true, decide_eq_true_eq] at h
  obtain ⟨⟨⟨h1, h2⟩, h3⟩, h4⟩ := h
  have base := pv (X := X) (pos := p) i (x := n) (by rw [hX.N]; exact h1) (vis_of hX.sc h2) (ne_of_bne h3) (ne_of_bne h4)
  have line : (ap.endLine == cp.line) = true := by rw [hl]; exact beq_self_eq_true _
  have pa := pa_cons ha pa_nil st
  refine PS_imp (ps_expr (pe_bm PySem.F.plainAttrs_list PySem.F.slot_list_append PySem.F.type_list_append mt_append base pa (abase rfl) (by rw [st]; rfl) line st rfl)) fun K σ H ⟨M0, e, s, W, eW, sf, q⟩ => ?_
  subst eW
  dsimp only at q
  split at q
  case h_2 => exact q.elim
  rename_i ds e0
  obtain ⟨a, z1, sh, z3, z4, z5⟩ := sf.own i _ e0
  obtain ⟨vs, y1, y2⟩ := _root_.id sh
  refine ⟨.ref a, z1, .inl ⟨rfl, vs, .inl (.inl y1)⟩, M0, e, s, W, rfl, sf, q.pk fun d s1 W1 l1 q1 v sf1 r1 => ?_⟩
  split at q1
  · rename_i hz
    obtain ⟨vs', w1, w2⟩ := sh.le l1 z4
    have mp : W1.Mu a := (sf1.mu a).mpr (.inr (.inr ⟨i, _, e0, z1⟩))
    have l2 : Ls W1 (W1.put a (.lst (vs' ++ [v]))) := Ls.put mp
    obtain ⟨l3, sf3⟩ := sf1.wr (u := .lst (vs' ++ [v])) (o' := .lst (ds ++ [d])) e0 z1 ⟨vs' ++ [v], upd_same, (w2.ls l2).append (.cons (r1.ls l2) .nil)⟩ nofun
    refine ⟨a, vs', v, rfl, rfl, w1, ?_, q1 σ _ l3 sf3⟩
    rw [← w2.length]
    have := sz_lt hz
    omega
  · exact q1.elim
theorem s_ret (he : PE X x (tV F fa)) : PS X (.Return (some x) pos) (tS F fun e s => (fa e s).toO fun rv s => .rt rv s) := by
  refine PS_imp (ps_ret he) fun K σ H ⟨M0, e, s, W, eW, sf, q⟩ => ⟨M0, e, s, W, eW, sf, OutK.pk (f := fun rv s => .rt rv s) q fun rv s1 W1 l1 q1 v ok => ?_⟩
  exact q1 v σ e W1 Ls.refl ok
theorem s_retn : PS X (.Return none pos) (tS F fun e s => .rt (.val .non) s) := by
  refine PS_imp ps_retN fun K σ H ⟨M0, e, s, W, eW, sf, q⟩ => ?_
  rw [← eW]
  exact q .non σ e W Ls.refl ⟨sf, rep_non⟩
theorem s_if {c : Expr} {ys zs : List Stmt} {ft : Env → Sto → RS Bool} {f g : Env → Sto → O} (hc : PT X c (tT F ft)) (ha : PSs X ys (tS F f)) (hb : PSs X zs (tS F g)) : PS X (.If c ys zs pos) (tS F fun e s => (ft e s).toO fun t s => if t then f e s else g e s) := by
  refine PS_imp (ps_if hc ha hb) fun K σ H ⟨M0, e, s, W, eW, sf, q⟩ => ⟨M0, e, s, W, eW, sf, OutK.pk (f := fun t s => if t then f e s else g e s) q fun t s1 W1 l1 q1 sf1 => ?_⟩
  cases t with
  | true => exact ⟨M0, e, s1, W1, rfl, sf1, q1⟩
  | false => exact ⟨M0, e, s1, W1, rfl, sf1, q1⟩
theorem s_aug (hX : XSt F cl C X) {i : Nat} {op : Operator} {g : Env → Sto → RS D} (hy : tgNm C C.sc i y = true) (ho : op = .Add ∨ op = .Sub) (ha : PE X x (tLk F g)) : PS X (.AugAssign y op x pos) (tS F fun e s => match slotD e i with
    | some x => (g e s).toO fun y s => match augD op x y with
      | some d => .nx (e.set i (some (.val d))) s
      | none => .no
    | none => .no) := by
  cases y <;> try (simp only [tgNm] at hy; cases hy; done)
  rename_i n p
  have hy0 := hy
  simp only [tgNm, Bool.and_eq_true, decide_eq_true_eq] at hy
  have hx : C.sc.names.lookup n = some .local ∨ C.sc.names.lookup n = some .cell := by
    have h2 := hy.2
    split at h2
    · exact .inl ‹_›
    · exact .inr ‹_›
    · cases h2
  obtain ⟨l1, l2⟩ := loc_of hX n hx
  have hn : X.N[i]? = some n := by rw [hX.N]; exact hy.1
  have fin : ∀ {M0 : Addr → Prop} {σ : L2.St} {e : Env} {s : Sto} {W : Wd} {K : Ends} {d : D} {v : V}, SF F M0 σ e s W → Rep F.G W d v → OutK F M0 W K (.nx (e.set i (some (.val d))) s) → K.nx (σ.set i (some v)) W.H := fun {M0 σ e s W K d v} sf r q => by
    obtain ⟨W3, eH3, l3, sf3⟩ := sf.setV (i := i) r
    have := q _ W3 l3 sf3
    rw [eH3] at this
    exact this
  rcases ho with rfl | rfl
  · refine PS_imp (ps_aug hX.nd hn l1 ha ip_add l2) fun K σ H ⟨M0, e, s, W, eW, sf, q⟩ => ?_
    dsimp only at q
    cases hd : slotD e i with
    | none => rw [hd] at q; exact q.elim
    | some d =>
      rw [hd] at q
      have hd' : e[i]? = some (some (.val d)) := by unfold slotD at hd; split at hd <;> first | (cases hd; assumption) | cases hd
      obtain ⟨w, z1, z2⟩ := sf.val i d hd'
      refine ⟨w, z1, M0, e, s, W, eW, sf, OutK.pk q fun b s1 W1 l q1 v sf1 lb => ?_⟩
      cases hz : augD .Add d b with
      | none => rw [hz] at q1; exact q1.elim
      | some r =>
        rw [hz] at q1
        cases d <;> cases b <;> simp only [augD, reduceCtorEq, Option.some.injEq] at hz
        subst hz
        cases z2.int_inv
        cases lb.int_inv
        exact ⟨_, _, rfl, rfl, fin sf1 rep_int q1⟩
  · refine PS_imp (ps_aug hX.nd hn l1 ha ip_sub l2) fun K σ H ⟨M0, e, s, W, eW, sf, q⟩ => ?_
    dsimp only at q
    cases hd : slotD e i with
    | none => rw [hd] at q; exact q.elim
    | some d =>
      rw [hd] at q
      have hd' : e[i]? = some (some (.val d)) := by unfold slotD at hd; split at hd <;> first | (cases hd; assumption) | cases hd
      obtain ⟨w, z1, z2⟩ := sf.val i d hd'
      refine ⟨w, z1, M0, e, s, W, eW, sf, OutK.pk q fun b s1 W1 l q1 v sf1 lb => ?_⟩
      cases hz : augD .Sub d b with
      | none => rw [hz] at q1; exact q1.elim
      | some r =>
        rw [hz] at q1
        cases d <;> cases b <;> simp only [augD, reduceCtorEq, Option.some.injEq] at hz
        subst hz
        cases z2.int_inv
        cases lb.int_inv
        exact ⟨_, _, rfl, rfl, fin sf1 rep_int q1⟩
end
end Wk

set_option Elab.async false
set_option linter.all false
set_option maxRecDepth 100000
set_option maxHeartbeats 4100000
/-! All statements. -/
namespace Wk
open PySem L2 PySem.Spec PyProof.Rows
section
variable {F : Frm} {cl : CallT} {C : Ck} {X : Cx} {x y z tg iter : Expr} {fa fb fc : Fv} {pos : Pos}
theorem s_par2 (hX : XSt F cl C X) {i j : Nat} {n m : Str} {p q p1 p2 : Pos} {k1 k2 : Nat} {gs : Env → Sto → RS (List D)} (hi : C.N[i]? = some n) (hj : C.N[j]? = some m) (ne : i ≠ j) (l1 : C.sc.names.lookup n = some .local) (l2 : C.sc.names.lookup m = some .local)
    (ha : PA X [x, y] (tDs F gs)) (hw : swp C [.Name n p, .Name m q] [x, y] = some (some [n, m])) :
    PS X (.Assign [.Tuple [.Name n p, .Name m q] k1 p1] (.Tuple [x, y] k2 p2) pos) (tS F fun e s => (gs e s).toO fun ds s => match setL [i, j] ds e with
      | some e' => .nx e' s
      | none => .no) := by
  refine PS_imp (ps_par hX.calm hX.nd (by rw [hX.N]; exact hi) (by rw [hX.N]; exact hj) ne (by rw [hX.sc]; exact l1) (by rw [hX.sc]; exact l2) ha (swp_ok hX.toXOk hw)) fun K σ H ⟨M0, e, s, W, eW, sf, q⟩ => ⟨M0, e, s, W, eW, sf, OutK.pk q fun ds s1 W1 l q1 vs sf1 r => ?_⟩
  rcases ds with _ | ⟨d1, _ | ⟨d2, _ | ⟨d3, ds⟩⟩⟩ <;> try exact q1.elim
  simp only [Reps] at r
  obtain ⟨v, r0, rfl, r1, w, r0', rfl, r2, rfl⟩ := r
  refine ⟨v, w, rfl, ?_⟩
  obtain ⟨W2, h2, l2, sf2⟩ := sf1.setV (i := i) r1
  obtain ⟨W3, h3, l3, sf3⟩ := sf2.setV (i := j) (r2.ls l2)
  have := q1 _ W3 (l2.trans l3) sf3
  rw [h3, h2] at this
  exact this
theorem s_par3 (hX : XSt F cl C X) {i j l : Nat} {n m o : Str} {p q r p1 p2 : Pos} {k1 k2 : Nat} {gs : Env → Sto → RS (List D)} (hi : C.N[i]? = some n) (hj : C.N[j]? = some m) (hl : C.N[l]? = some o) (ne : i ≠ j) (ne2 : i ≠ l) (ne3 : j ≠ l) (l1 : C.sc.names.lookup n = some .local) (l2 : C.sc.names.lookup m = some .local) (l3 : C.sc.names.lookup o = some .local)
    (ha : PA X [x, y, z] (tDs F gs)) (hw : swp C [.Name n p, .Name m q, .Name o r] [x, y, z] = some (some [n, m, o])) :
    PS X (.Assign [.Tuple [.Name n p, .Name m q, .Name o r] k1 p1] (.Tuple [x, y, z] k2 p2) pos) (tS F fun e s => (gs e s).toO fun ds s => match setL [i, j, l] ds e with
      | some e' => .nx e' s
      | none => .no) := by
  refine PS_imp (ps_par3 hX.calm hX.nd (by rw [hX.N]; exact hi) (by rw [hX.N]; exact hj) (by rw [hX.N]; exact hl) ne ne2 ne3 (by rw [hX.sc]; exact l1) (by rw [hX.sc]; exact l2) (by rw [hX.sc]; exact l3) ha (swp_ok hX.toXOk hw)) fun K σ H ⟨M0, e, s, W, eW, sf, q⟩ => ⟨M0, e, s, W, eW, sf, OutK.pk q fun ds s1 W1 lz q1 vs sf1 r => ?_⟩
  rcases ds with _ | ⟨d1, _ | ⟨d2, _ | ⟨d3, _ | ⟨d4, ds⟩⟩⟩⟩ <;> try exact q1.elim
  simp only [Reps] at r
  obtain ⟨u, r0, rfl, r1, v, r0', rfl, r2, w, r0'', rfl, r3, rfl⟩ := r
  refine ⟨u, v, w, rfl, ?_⟩
  obtain ⟨W2, h2, l2, sf2⟩ := sf1.setV (i := i) r1
  obtain ⟨W3, h3, l3, sf3⟩ := sf2.setV (i := j) (r2.ls l2)
  obtain ⟨W4, h4, l4, sf4⟩ := sf3.setV (i := l) ((r3.ls l2).ls l3)
  have := q1 _ W4 ((l2.trans l3).trans l4) sf4
  rw [h4, h3, h2] at this
  exact this
theorem tgNms_len {sc : Scope} : ∀ {ts : List Nat} {ys : List Expr}, tgNms C sc ts ys = true → ts.length = ys.length
  | [], [], _ => rfl
  | [], _ :: _, h => by simp [tgNms] at h
  | _ :: _, [], h => by simp [tgNms] at h
  | t :: ts, y :: ys, h => by
    simp only [tgNms, Bool.and_eq_true] at h
    rw [List.length_cons, List.length_cons, tgNms_len h.2]
/-! ### loops -/
theorem setL_s {M0 : Addr → Prop} {s : Sto} : ∀ {t : List Nat} {ds : List D} {e e' : Env} {σ : L2.St} {xs : List V} {W : Wd} {Q : L2.St → Hp → Prop}, setL t ds e = some e' → SF F M0 σ e s W → Reps F.G W ds xs →
    (∀ σ' W', Ls W W' → SF F M0 σ' e' s W' → Q σ' W'.H) → gSeq t xs σ W.H Q
  | [], [], e, e', σ, xs, W, Q, h, sf, r, k => by
    cases h
    simp only [Reps] at r
    exact ⟨r, k σ W Ls.refl sf⟩
  | [], _ :: _, _, _, _, _, _, _, h, _, _, _ => by cases h
  | _ :: _, [], _, _, _, _, _, _, h, _, _, _ => by cases h
  | i :: is, d :: ds, e, e', σ, xs, W, Q, h, sf, r, k => by
    simp only [Reps] at r
    obtain ⟨v, rs, rfl, r1, r2⟩ := r
    obtain ⟨W2, h2, l2, sf2⟩ := sf.setV (i := i) r1
    have := setL_s (t := is) (ds := ds) (e := e.set i (some (.val d))) (W := W2) (Q := Q) h sf2 (r2.ls l2) fun σ' W' l sf' => k σ' W' (l2.trans l) sf'
    rw [h2] at this
    exact ⟨v, rs, rfl, this⟩
theorem setT_s (hK : X.K = F.G.K) {M0 : Addr → Prop} {s : Sto} {W : Wd} {t : List Nat} {tp : Bool} {d : D} {e e' : Env} {σ : L2.St} {x : V} {Q : L2.St → Hp → Prop} (h : setT t tp d e = some e') (sf : SF F M0 σ e s W) (r : Rep F.G W d x)
    (k : ∀ σ' W', Ls W W' → SF F M0 σ' e' s W' → Q σ' W'.H) : gT X.K t tp x σ W.H Q := by
  cases tp with
  | true =>
    unfold setT at h
    dsimp only at h
    split at h
    · rename_i ds
      obtain ⟨a, xs, rfl, h1, h2⟩ := r.sqT
      rw [← hK] at h1
      have len : xs.length = t.length := by
        rw [← h2.length]
        clear h2 r h1
        have go : ∀ (t : List Nat) (ds : List D) (e : Env), setL t ds e = some e' → ds.length = t.length := by
          intro t
          induction t with
          | nil => intro ds e h; cases ds with | nil => rfl | cons _ _ => cases h
          | cons i is ih => intro ds e h; cases ds with | nil => cases h | cons d ds => rw [List.length_cons, List.length_cons, ih ds _ h]
        exact go t ds e h
      exact ⟨a, xs, rfl, h1, len, setL_s h sf h2 k⟩
    · cases h
  | false =>
    unfold setT at h
    dsimp only at h
    split at h
    · rename_i i
      cases h
      obtain ⟨W2, h2, l2, sf2⟩ := sf.setV (i := i) r
      have := k _ W2 l2 sf2
      rw [h2] at this
      exact this
    · cases h
/-- a body's answer, told to the loop -/
theorem OutK.loop {M0 : Addr → Prop} {W : Wd} {K : Ends} {N : L2.St → Hp → Prop} {r : O} {go : Env → Sto → O} (h : OutK F M0 W K (match r with
    | .nx e s => go e s
    | .ct e s => go e s
    | .bk e s => .nx e s
    | .rt d s => .rt d s
    | .ex c a s => .ex c a s
    | .no => .no)) (hN : ∀ σ' e s W', Ls W W' → SF F M0 σ' e s W' → OutK F M0 W' K (go e s) → N σ' W'.H) : OutK F M0 W { K with nx := N, ct := N, bk := K.nx } r := by
  cases r with
  | nx e s => exact fun σ' W' l sf => hN σ' e s W' l sf (OutK.mono h l)
  | ct e s => exact fun σ' W' l sf => hN σ' e s W' l sf (OutK.mono h l)
  | bk e s => exact h
  | rt v s => exact h
  | ex c a s => exact h
  | no => exact h
theorem s_for (hX : XSt F cl C X) {t : List Nat} {tp : Bool} {sts : List Stmt} {gi : Env → Sto → RS (List D)} {b : Env → Sto → O} (hi : PI X y iter (tI F gi)) (htg : tgOk C C.sc t tp y = true) (hb : PSs X sts (tS F b)) (hs : ∀ v, foldedSetIterable iter X.env v = pure v) :
    PS X (.For y iter sts [] pos) (tS F fun e s => (gi e s).toO fun ds s => frGo (frStep t tp b) ds e s) := by
  refine PS_imp (ps_for hX.po hX.calm hi (tg_ok hX.calm hX.nd hX.N htg (loc_of hX)) hb hs) fun K σ H ⟨M0, e, s, W, eW, sf, q⟩ => ⟨M0, e, s, W, eW, sf, OutK.pk (f := fun ds s => frGo (frStep t tp b) ds e s) q fun items s1 W1 l1 q1 sf1 J Gs Y wk hG hY => ?_⟩
  let Pv : Nat → L2.St → Hp → Prop := fun i σ H => ∃ (e : Env) (s : Sto) (W2 : Wd), W2.H = H ∧ SF F M0 σ e s W2 ∧ Ls W1 W2 ∧ OutK F M0 W2 K (frGo (frStep t tp b) (items.drop i) e s)
  refine for_it wk Pv ⟨e, s1, W1, rfl, sf1, Ls.refl, by rw [List.drop_zero]; exact q1⟩ ?_ ?_ ?_
  · rintro i σ _ _ ⟨e, s, W2, rfl, _, l2, _⟩
    exact hG W2 l2
  · rintro i x σ _ H' hlt ⟨e, s, W2, rfl, sf2, l2, q2⟩ hy
    obtain ⟨W3, rfl, l3, sf3, d, ed, rd⟩ := hY i x W2 H' M0 σ e s l2 sf2 hy
    have hdr : items.drop i = d :: items.drop (i + 1) := by
      obtain ⟨h1, h2⟩ := List.getElem?_eq_some_iff.mp ed
      rw [List.drop_eq_getElem_cons h1, h2]
    rw [hdr] at q2
    unfold frGo frStep at q2
    cases hset : setT t tp d e with
    | none => rw [hset] at q2; exact q2.elim
    | some e' =>
      rw [hset] at q2
      refine setT_s hX.K hset sf3 rd fun σ' W4 l4 sf4 => ⟨M0, e', s, W4, rfl, sf4, ?_⟩
      refine OutK.loop (go := fun e s => frGo (frStep t tp b) (items.drop (i + 1)) e s) (OutK.mono q2 (l3.ls.trans l4)) fun σ5 e5 s5 W5 l5 sf5 q5 => ?_
      exact ⟨e5, s5, W5, rfl, sf5, ((l2.trans l3.ls).trans l4).trans l5, q5⟩
  · rintro σ _ ⟨e, s, W2, rfl, sf2, l2, q2⟩
    rw [List.drop_length] at q2
    exact q2 σ W2 Ls.refl sf2
theorem s_while (hX : XSt F cl C X) {sts : List Stmt} {ft : Env → Sto → RS Bool} {b : Env → Sto → O} (hc : PT X x (tT F ft)) (hb : PSs X sts (tS F b)) : PS X (.While x sts [] pos) (tS F fun e s => wl ft b e s) := by
  refine PS_imp (ps_while hX.po hc hb) fun K σ H ⟨M0, e, s, W, eW, sf, q⟩ => ?_
  let Iv : Nat → L2.St → Hp → Prop := fun m σ H => ∃ (e : Env) (s : Sto) (W2 : Wd), W2.H = H ∧ SF F M0 σ e s W2 ∧ OutK F M0 W2 K (wlGo ft b m e s)
  dsimp only at q
  have hne : wl ft b e s ≠ .no := fun z => by rw [z] at q; exact q
  obtain ⟨n, hn⟩ := wl_go (r := wl ft b e s) rfl hne
  refine ⟨Iv, ⟨n, e, s, W, eW, sf, by rw [hn]; exact q⟩, ?_⟩
  rintro m σ _ ⟨e, s, W2, rfl, sf2, q2⟩
  cases m with
  | zero => exact q2.elim
  | succ m =>
    unfold wlGo at q2
    refine ⟨M0, e, s, W2, rfl, sf2, OutK.pk q2 fun t s3 W3 l3 q3 sf3 => ?_⟩
    cases t with
    | false => exact q3 σ W3 Ls.refl sf3
    | true =>
      rw [if_pos rfl] at q3
      refine ⟨Iv m, fun σ' H' z => ⟨m, Nat.lt_succ_self m, z⟩, M0, e, s3, W3, rfl, sf3, ?_⟩
      refine OutK.loop (go := fun e s => wlGo ft b m e s) q3 fun σ5 e5 s5 W5 l5 sf5 q5 => ?_
      exact ⟨e5, s5, W5, rfl, sf5, q5⟩
theorem mvE_ok {M0 : Addr → Prop} {s : Sto} : ∀ {is : List Nat} {e e' : Env} {σ : L2.St} {W : Wd}, mvE F.G.T is e = some e' → SF F M0 σ e s W → ∃ W', W'.H = W.H ∧ Ls W W' ∧ SF F M0 σ e' s W'
  | [], e, e', σ, W, h, sf => by cases h; exact ⟨W, rfl, Ls.refl, sf⟩
  | i :: is, e, e', σ, W, h, sf => by
    unfold mvE at h
    split at h
    · rename_i o e0
      simp only [Option.bind_eq_some_iff] at h
      obtain ⟨d, h1, h2⟩ := h
      obtain ⟨W2, eH, l2, sf2⟩ := sf.mv e0 h1
      obtain ⟨W3, eH3, l3, sf3⟩ := mvE_ok h2 sf2
      exact ⟨W3, eH3.trans eH, l2.trans l3, sf3⟩
    · exact mvE_ok h sf
theorem asgN_eq {T : IT} {own : Bool} {i : Nat} (rv : Rv) (e : Env) (s : Sto) : (match own, (Tg.nm i), rv with
    | true, .nm i, .fr o => O.nx (e.set i (some (.own o))) s
    | _, t, rv => match frz T rv with
      | some d => (tgA T cl t d e s).toO fun e s => .nx e s
      | none => .no) = asgN T own i rv e s := by
  have slow : ∀ rv : Rv, (match frz T rv with
      | some d => (tgA T cl (.nm i) d e s).toO fun e s => .nx e s
      | none => .no) = (match frz T rv with
    | some d => O.nx (e.set i (some (.val d))) s
    | none => .no) := fun rv => by cases frz T rv <;> rfl
  cases own with
  | false => exact slow rv
  | true =>
    cases rv with
    | val d => rfl
    | fr o => rfl
end
section
variable {F : Frm} {cl : CallT} {C : Ck} {X : Cx}
mutual
theorem st_ok (hX : XSt F cl C X) : ∀ {a : Sx} {st : Stmt}, chkS a C st = true → PS X st (tS F (exS F.G.T cl a))
  | .asg own t a, st, h => by
    cases st <;> try simp only [chkS, Bool.false_eq_true] at h
    rename_i ys x p
    rcases ys with _ | ⟨y, _ | ⟨y2, ys⟩⟩ <;> simp only [chkS, Bool.false_eq_true, Bool.and_eq_true, Bool.or_eq_true] at h
    obtain ⟨h1, h2⟩ := h
    have hv := ev_ok (cl := cl) a hX.toXOk h1
    rcases h2 with ⟨h2, h3⟩ | h2
    · by_cases hn : ∃ i, t = .nm i
      · obtain ⟨i, rfl⟩ := hn
        cases hc : isComp x with
        | false => exact PS_imp (s_asgN hX (own := own) (g := fun rv e s => _) (fun rv e s => asgN_eq (cl := cl) rv e s) hv.v h2 hc) fun K σ H z => z
        | true =>
          cases x <;> try (simp only [isComp] at hc; cases hc; done)
          · cases a <;> try simp only [chkE, Bool.false_eq_true] at h1
            rename_i elt gens scope pl el tt tp it ifs vs
            rcases gens with _ | ⟨⟨tg, iter, tests, as⟩, _ | ⟨g2, gens⟩⟩ <;> try simp only [chkE, Bool.false_eq_true] at h1
            by_cases e0 : as = 0
            case neg => exfalso; simp [chkE, e0] at h1
            subst e0
            simp only [chkE, Bool.false_eq_true, Bool.and_eq_true, decide_eq_true_eq] at h1
            obtain ⟨⟨⟨⟨⟨⟨⟨⟨h1, hit⟩, h2'⟩, h3'⟩, h4⟩, h5⟩, h6⟩, h7⟩, h8⟩ := h1
            have ok := lc_blk hX.toXOk h2'
            exact PS_imp (s_asgL hX (own0 := own) (g := fun rv e s => _) (fun rv e s => asgN_eq (cl := cl) rv e s) h2 ((ev_ok (cl := cl) it hX.toXOk h1).j tg hit) h2' h3' h4 h5 (fun s H Cc cls fp => (evs_ok ifs (hX.toXOk.blk ok s H Cc cls fp) h6).pts h7)
              (fun s H Cc cls fp => s_asD (ev_ok el (hX.toXOk.blk ok s H Cc cls fp) h8).v) fun v => fold_of h1 _ v) fun K σ H z => z
          · cases a <;> simp [chkE] at h1
          · cases a <;> simp [chkE] at h1
      · have hy : isComp x = false ∨ ∀ z p, y ≠ .Name z p := .inr fun z p e => by
          subst e
          cases t with
          | nm i => exact hn ⟨i, rfl⟩
          | «at» o f => simp only [chkT] at h2; cases h2
          | sb k i => simp only [chkT] at h2; obtain ⟨_, _, _, _, _, _, e, _⟩ := chkSb_inv h2; cases e
          | tp ts => simp only [chkT] at h2; cases h2
        refine PS_imp (s_asg (t := t) hX hv.v h2 h3 hy) fun K σ H ⟨M0, e, s, W, eW, sf, q⟩ => ⟨M0, e, s, W, eW, sf, ?_⟩
        have e1 : exS F.G.T cl (.asg own t a) e s = (evX F.G.T cl a e s).v.toO fun rv s => match frz F.G.T rv with
          | some d => (tgA F.G.T cl t d e s).toO fun e s => .nx e s
          | none => .no := by
          unfold exS
          congr 1
          funext rv s
          cases own with
          | false => rfl
          | true =>
            cases t with
            | nm i => exact absurd ⟨i, rfl⟩ hn
            | «at» o f => rfl
            | sb k i => rfl
            | tp ts => rfl
        rw [e1] at q
        exact q
    · split at h2
      · simp only [Bool.and_eq_true, decide_eq_true_eq] at h2
        refine PS_imp (s_fld hX h2.2 h2.1 hv.v) fun K σ H ⟨M0, e, s, W, eW, sf, q⟩ => ⟨M0, e, s, W, eW, sf, ?_⟩
        cases own <;> exact q
      · cases h2
  | .par ts es, st, h => by
    cases st <;> try simp only [chkS, Bool.false_eq_true] at h
    rename_i ys x p
    rcases ys with _ | ⟨y, _ | ⟨y2, ys⟩⟩ <;> try simp only [chkS, Bool.false_eq_true] at h
    cases y <;> try simp only [chkS, Bool.false_eq_true] at h
    rename_i ys k1 p1
    cases x <;> simp only [chkS, Bool.false_eq_true, Bool.and_eq_true, decide_eq_true_eq] at h
    rename_i xs k2 p2
    obtain ⟨⟨⟨⟨⟨⟨h1, h2⟩, h3⟩, h4⟩, h5⟩, h6⟩, h7⟩ := h
    have hs := evs_ok (cl := cl) es hX.toXOk h2
    have hw : swp C ys xs = some (some (namesOf ys)) := by
      split at h4
      · rename_i l e
        rw [e, of_decide_eq_true h4]
      · cases h4
    have nm : ∀ {i : Nat} {y : Expr}, tgNm C C.sc i y = true → ∃ n q, y = .Name n q ∧ C.N[i]? = some n := fun {i y} z => by
      cases y <;> simp only [tgNm, Bool.false_eq_true, Bool.and_eq_true, decide_eq_true_eq] at z
      exact ⟨_, _, rfl, z.1⟩
    rcases h6 with h6 | h6
    · rcases ys with _ | ⟨y1, _ | ⟨y2, _ | ⟨y3, ys⟩⟩⟩ <;> simp at h6
      rcases xs with _ | ⟨x1, _ | ⟨x2, _ | ⟨x3, xs⟩⟩⟩ <;> simp at h5
      have hl := tgNms_len h1
      rcases ts with _ | ⟨i, _ | ⟨j, _ | ⟨l, ts⟩⟩⟩ <;> simp at hl
      simp only [tgNms, Bool.and_eq_true] at h1
      obtain ⟨g1, g2, _⟩ := h1
      obtain ⟨n, q, rfl, e1⟩ := nm g1
      obtain ⟨m, q', rfl, e2⟩ := nm g2
      simp only [List.all_cons, List.all_nil, Bool.and_true, Bool.and_eq_true, decide_eq_true_eq] at h7
      exact s_par2 hX e1 e2 (by rintro rfl; simp at h3) h7.1 h7.2 hs.ds hw
    · rcases ys with _ | ⟨y1, _ | ⟨y2, _ | ⟨y3, _ | ⟨y4, ys⟩⟩⟩⟩ <;> simp at h6
      rcases xs with _ | ⟨x1, _ | ⟨x2, _ | ⟨x3, _ | ⟨x4, xs⟩⟩⟩⟩ <;> simp at h5
      have hl := tgNms_len h1
      rcases ts with _ | ⟨i, _ | ⟨j, _ | ⟨l, _ | ⟨l2, ts⟩⟩⟩⟩ <;> simp at hl
      simp only [tgNms, Bool.and_eq_true] at h1
      obtain ⟨g1, g2, g3, _⟩ := h1
      obtain ⟨n, q, rfl, e1⟩ := nm g1
      obtain ⟨m, q', rfl, e2⟩ := nm g2
      obtain ⟨o, q'', rfl, e3⟩ := nm g3
      simp only [List.all_cons, List.all_nil, Bool.and_true, Bool.and_eq_true, decide_eq_true_eq] at h7
      exact s_par3 hX e1 e2 e3 (by rintro rfl; simp at h3) (by rintro rfl; simp at h3) (by rintro rfl; simp at h3) h7.1 h7.2.1 h7.2.2 hs.ds hw
  | .aug i op a, st, h => by
    cases st <;> simp only [chkS, Bool.false_eq_true, Bool.and_eq_true, decide_eq_true_eq] at h
    obtain ⟨⟨⟨h1, rfl⟩, h3⟩, h4⟩ := h
    exact s_aug hX h1 h3 (ev_ok (cl := cl) a hX.toXOk h4).b
  | .exp a, st, h => by
    cases st <;> simp only [chkS, Bool.false_eq_true, Bool.and_eq_true] at h
    exact s_exp hX (ev_ok (cl := cl) a hX.toXOk h.1).v (by simpa using h.2)
  | .app i a, st, h => by
    cases st <;> try simp only [chkS, Bool.false_eq_true] at h
    rename_i x p
    cases x <;> try simp only [chkS, Bool.false_eq_true] at h
    rename_i f xs kws cp
    cases f <;> try simp only [chkS, Bool.false_eq_true] at h
    rename_i o m ap
    cases o <;> try simp only [chkS, Bool.false_eq_true] at h
    rename_i n pn
    rcases xs with _ | ⟨x, _ | ⟨x2, xs⟩⟩ <;> try simp only [chkS, Bool.false_eq_true] at h
    cases kws <;> simp only [chkS, Bool.false_eq_true, Bool.and_eq_true, decide_eq_true_eq] at h
    obtain ⟨⟨⟨h1, rfl⟩, h3⟩, h4⟩ := h
    exact s_app hX h1 (s_asD (ev_ok (cl := cl) a hX.toXOk h3).v) (star_of h3 _ _) h4
  | .ret a, st, h => by
    cases st <;> try simp only [chkS, Bool.false_eq_true] at h
    rename_i o p
    cases o <;> simp only [chkS, Bool.false_eq_true] at h
    exact s_ret (ev_ok (cl := cl) a hX.toXOk h).v
  | .retn, st, h => by
    cases st <;> try simp only [chkS, Bool.false_eq_true] at h
    rename_i o p
    cases o <;> simp only [chkS, Bool.false_eq_true] at h
    exact s_retn
  | .ife c a b, st, h => by
    cases st <;> simp only [chkS, Bool.false_eq_true, Bool.and_eq_true] at h
    exact s_if (ev_ok (cl := cl) c hX.toXOk h.1.1).t (bl_ok hX h.1.2) (bl_ok hX h.2)
  | .fr t tp it b, st, h => by
    cases st <;> try simp only [chkS, Bool.false_eq_true] at h
    rename_i y x ys zs p
    cases zs <;> simp only [chkS, Bool.false_eq_true, Bool.and_eq_true] at h
    exact s_for hX ((ev_ok (cl := cl) it hX.toXOk h.1.1.1).i y h.1.1.2) h.1.2 (bl_ok hX h.2) fun v => fold_of h.1.1.1 _ v
  | .whl c b, st, h => by
    cases st <;> try simp only [chkS, Bool.false_eq_true] at h
    rename_i x ys zs p
    cases zs <;> simp only [chkS, Bool.false_eq_true, Bool.and_eq_true] at h
    exact s_while hX (ev_ok (cl := cl) c hX.toXOk h.1).t (bl_ok hX h.2)
  | .rse c as, st, h => PS_imp ps_never fun K σ H ⟨M0, e, s, W, eW, sf, q⟩ => q
  | .pass, st, h => by
    cases st <;> simp only [chkS, Bool.false_eq_true] at h
    refine PS_imp ps_pass fun K σ H ⟨M0, e, s, W, eW, sf, q⟩ => ?_
    rw [← eW]
    exact q σ W Ls.refl sf
  | .brk, st, h => by
    cases st <;> simp only [chkS, Bool.false_eq_true] at h
    refine PS_imp ps_break fun K σ H ⟨M0, e, s, W, eW, sf, q⟩ => ?_
    rw [← eW]
    exact q σ W Ls.refl sf
  | .cont, st, h => by
    cases st <;> simp only [chkS, Bool.false_eq_true] at h
    refine PS_imp ps_continue fun K σ H ⟨M0, e, s, W, eW, sf, q⟩ => ?_
    rw [← eW]
    exact q σ W Ls.refl sf
  | .mv is a, st, h => by
    have h' : chkS a C st = true := by cases st <;> simpa only [chkS] using h
    refine PS_imp (st_ok hX h') fun K σ H ⟨M0, e, s, W, eW, sf, q⟩ => ?_
    unfold exS at q
    split at q
    · rename_i e' he
      obtain ⟨W2, eH, l2, sf2⟩ := mvE_ok he sf
      exact ⟨M0, e', s, W2, eH.trans eW, sf2, OutK.mono q l2⟩
    · exact q.elim
theorem bl_ok (hX : XSt F cl C X) : ∀ {b : Blk} {sts : List Stmt}, chkB b C sts = true → PSs X sts (tS F (exB F.G.T cl b))
  | .nil, sts, h => by
    cases sts <;> simp only [chkB, Bool.false_eq_true] at h
    refine PSs_imp pss_nil fun K σ H ⟨M0, e, s, W, eW, sf, q⟩ => ?_
    unfold exB at q
    rw [← eW]
    exact q σ W Ls.refl sf
  | .cons a b, sts, h => by
    cases sts <;> simp only [chkB, Bool.false_eq_true, Bool.and_eq_true] at h
    refine PSs_imp (pss_cons (st_ok hX h.1) (bl_ok hX h.2)) fun K σ H ⟨M0, e, s, W, eW, sf, q⟩ => ⟨M0, e, s, W, eW, sf, ?_⟩
    unfold exB at q
    cases hr : exS F.G.T cl a e s with
    | nx e2 s2 => rw [hr] at q; exact fun σ' W' l sf' => ⟨M0, e2, s2, W', rfl, sf', OutK.mono q l⟩
    | rt v s2 => rw [hr] at q; exact q
    | bk e2 s2 => rw [hr] at q; exact q
    | ct e2 s2 => rw [hr] at q; exact q
    | ex c a s2 => rw [hr] at q; exact q
    | no => rw [hr] at q; exact q
end
end
end Wk

set_option Elab.async false
set_option linter.all false
set_option maxRecDepth 100000
set_option maxHeartbeats 4100000
/-! How a def's parameters are bound. -/
namespace Wk
open PySem L2 PySem.Spec PyProof.Rows
theorem forIn_kw {pos : List Str} {f : Str × Value → List (Str × Value) × List (Str × Value) → Sem (ForInStep (List (Str × Value) × List (Str × Value)))}
    (hf : ∀ (q : Str × Value) (sl ex : List (Str × Value)), pos.contains q.1 = true → sl.lookup q.1 = none → f q (sl, ex) = pure (.yield (sl ++ [q], ex))) : ∀ (kws sl ex : List (Str × Value)), (∀ q ∈ kws, pos.contains q.1 = true) → (∀ q ∈ kws, sl.lookup q.1 = none) → (kws.map (·.1)).Nodup →
    forIn kws (sl, ex) f = pure (sl ++ kws, ex)
  | [], sl, ex, _, _, _ => by rw [List.forIn_nil, List.append_nil]
  | q :: kws, sl, ex, h1, h2, h3 => by
    rw [List.forIn_cons, hf q sl ex (h1 q List.mem_cons_self) (h2 q List.mem_cons_self), pure_bind]
    show forIn kws (sl ++ [q], ex) f = _
    have h3' := List.nodup_cons.mp h3
    rw [forIn_kw hf kws (sl ++ [q]) ex (fun p hp => h1 p (List.mem_cons_of_mem _ hp)) (fun p hp => ?_) h3'.2, List.append_assoc]
    · rfl
    · rw [List.lookup_append, h2 p (List.mem_cons_of_mem _ hp)]
      have ne : (p.1 == q.1) = false := by
        rw [beq_eq_false_iff_ne]
        intro e
        exact h3'.1 (List.mem_map.mpr ⟨p, hp, e⟩)
      obtain ⟨a, b⟩ := q
      simp only [List.lookup_cons, ne, List.lookup_nil, Option.or_none, Option.none_or]
theorem forIn_dfl {f : Str × Value → List (Str × Value) → Sem (ForInStep (List (Str × Value)))} (hf : ∀ (q : Str × Value) (sl : List (Str × Value)), f q sl = pure (.yield (if (sl.lookup q.1).isNone then sl ++ [q] else sl))) : ∀ (l sl : List (Str × Value)),
    ∃ sl', forIn l sl f = pure sl' ∧ ∀ n, sl'.lookup n = (sl.lookup n).or (l.lookup n)
  | [], sl => ⟨sl, by rw [List.forIn_nil], fun n => by simp⟩
  | q :: l, sl => by
    obtain ⟨sl', e1, e2⟩ := forIn_dfl hf l (if (sl.lookup q.1).isNone then sl ++ [q] else sl)
    refine ⟨sl', by rw [List.forIn_cons, hf, pure_bind]; exact e1, fun n => ?_⟩
    rw [e2 n]
    obtain ⟨a, b⟩ := q
    by_cases hn : n = a
    · subst hn
      cases h : sl.lookup n with
      | none => simp [List.lookup_append, h]
      | some v => simp [h]
    · have ne : (n == a) = false := beq_eq_false_iff_ne.mpr hn
      split
      · simp [List.lookup_append, List.lookup_cons, ne]
      · simp [List.lookup_cons, ne]
theorem zip_at {α : Type} : ∀ {pos : List Str} {us : List α} {i : Nat} {n : Str}, pos.Nodup → pos[i]? = some n → (pos.zip us).lookup n = us[i]?
  | [], us, i, n, _, h => by simp at h
  | p :: pos, [], i, n, _, h => by simp
  | p :: pos, u :: us, 0, n, nd, h => by
    cases h
    rw [List.zip_cons_cons, List.lookup_cons, beq_self_eq_true]
    rfl
  | p :: pos, u :: us, i + 1, n, nd, h => by
    have nd' := List.nodup_cons.mp nd
    rw [List.getElem?_cons_succ] at h
    rw [List.zip_cons_cons, List.lookup_cons]
    have ne : (n == p) = false := by
      rw [beq_eq_false_iff_ne]
      rintro rfl
      exact nd'.1 (List.mem_of_getElem? h)
    rw [ne, List.getElem?_cons_succ]
    exact zip_at nd'.2 h
theorem zip_not {α : Type} : ∀ {pos : List Str} {us : List α} {n : Str}, n ∉ pos → (pos.zip us).lookup n = none
  | [], us, n, _ => rfl
  | p :: pos, [], n, _ => by simp
  | p :: pos, u :: us, n, h => by
    rw [List.zip_cons_cons, List.lookup_cons]
    have ne : (n == p) = false := by
      rw [beq_eq_false_iff_ne]
      rintro rfl
      exact h List.mem_cons_self
    rw [ne]
    exact zip_not fun z => h (List.mem_cons_of_mem _ z)
theorem zip_get {α : Type} {g : Str → Option α} : ∀ {pos : List Str} {vals : List α}, pos.length = vals.length → (∀ (i : Nat) (n : Str), pos[i]? = some n → g n = vals[i]?) → pos.filterMap (fun n => (g n).map (n, ·)) = pos.zip vals
  | [], [], _, _ => rfl
  | [], _ :: _, h, _ => by simp at h
  | _ :: _, [], h, _ => by simp at h
  | p :: pos, v :: vals, h, hg => by
    have h0 := hg 0 p rfl
    rw [List.getElem?_cons_zero] at h0
    rw [List.filterMap_cons, h0]
    have ih := zip_get (g := g) (pos := pos) (vals := vals) (Nat.succ.inj h) fun i n e => by
      have := hg (i + 1) n (by rw [List.getElem?_cons_succ]; exact e)
      rwa [List.getElem?_cons_succ] at this
    simp only [Option.map_some]
    rw [ih, List.zip_cons_cons]
theorem bindGo_len {κ α : Type} [BEq κ] {kws : List (κ × α)} {dfl : List α} : ∀ {ns : List κ} {r : List α}, bindGo kws dfl ns = some r → r.length = ns.length
  | [], r, h => by cases h; rfl
  | n :: ns, r, h => by
    simp only [bindGo, Option.bind_eq_some_iff, Option.map_eq_some_iff] at h
    obtain ⟨v, _, r', h2, rfl⟩ := h
    rw [List.length_cons, List.length_cons, bindGo_len h2]
theorem bindGo_at {α : Type} {kws : List (Str × α)} {dfl : List α} : ∀ {ns : List Str} {r : List α}, bindGo kws dfl ns = some r → ∀ (j : Nat) (n : Str), ns[j]? = some n → r[j]? = (kws.lookup n).or (if ns.length - j ≤ dfl.length then dfl[dfl.length - (ns.length - j)]? else none)
  | [], r, h, j, n, e => by simp at e
  | m :: ns, r, h, j, n, e => by
    simp only [bindGo, Option.bind_eq_some_iff, Option.map_eq_some_iff] at h
    obtain ⟨v, h1, r', h2, rfl⟩ := h
    cases j with
    | zero =>
      cases e
      rw [List.getElem?_cons_zero, ← h1]
      unfold argOf
      cases kws.lookup m with
      | some v => rfl
      | none => rfl
    | succ j =>
      rw [List.getElem?_cons_succ] at e ⊢
      rw [bindGo_at h2 j n e]
      have e1 : (m :: ns).length - (j + 1) = ns.length - j := by rw [List.length_cons]; omega
      rw [e1]
theorem bind_at {α : Type} {pos : List Str} {us : List α} {kws : List (Str × α)} {dfl r : List α} (nd : pos.Nodup) (hl : us.length ≤ pos.length) (hd : dfl.length ≤ pos.length) (hk : ∀ q ∈ kws, q.1 ∈ pos.drop us.length) (h : bindGo kws dfl (pos.drop us.length) = some r)
    (i : Nat) (n : Str) (e : pos[i]? = some n) : ((pos.zip us ++ kws).lookup n).or (((pos.drop (pos.length - dfl.length)).zip dfl).lookup n) = (us ++ r)[i]? := by
  rw [List.lookup_append, zip_at nd e]
  have hi : i < pos.length := (List.getElem?_eq_some_iff.mp e).1
  by_cases hiu : i < us.length
  · rw [List.getElem?_append_left hiu, List.getElem?_eq_getElem hiu]
    rfl
  · have hiu : us.length ≤ i := by omega
    rw [List.getElem?_append_right hiu, List.getElem?_eq_none hiu, Option.none_or]
    have e2 : (pos.drop us.length)[i - us.length]? = some n := by rw [List.getElem?_drop, show us.length + (i - us.length) = i by omega]; exact e
    rw [bindGo_at h _ n e2]
    have e3 : (pos.drop us.length).length - (i - us.length) = pos.length - i := by rw [List.length_drop]; omega
    rw [e3]
    congr 1
    by_cases hf : pos.length - i ≤ dfl.length
    · rw [if_pos hf]
      have e4 : (pos.drop (pos.length - dfl.length))[i - (pos.length - dfl.length)]? = some n := by rw [List.getElem?_drop, show pos.length - dfl.length + (i - (pos.length - dfl.length)) = i by omega]; exact e
      rw [zip_at (nd.sublist (List.drop_sublist _ _)) e4]
      congr 1
      omega
    · rw [if_neg hf]
      refine zip_not fun z => ?_
      obtain ⟨k, hk1⟩ := List.getElem?_of_mem z
      rw [List.getElem?_drop] at hk1
      have e5 := (List.getElem?_eq_some_iff.mp hk1)
      have e6 := (List.getElem?_eq_some_iff.mp e)
      have := (List.getElem_inj nd).mp (e5.2.trans e6.2.symm)
      omega
/-- the binder's own text, for a def with plain parameters -/
theorem bindArgs_plain {M : Model} {h : Heap} {fd : FuncData} {ps : List Arg} {kd : List (Option Expr)} {ds : List Expr} (hp : fd.params = ⟨[], ps, none, [], kd, none, ds⟩) {us : List Value} {kws : List (Str × Value)} {dfl r : List Value}
    (look : PySem.W.Looks M h (seqItems? fd.defaults) (if dfl = [] then none else some dfl.toArray)) (nd : (ps.map (·.arg)).Nodup) (hl : us.length ≤ ps.length) (hd : dfl.length ≤ ps.length) (hk : ∀ q ∈ kws, q.1 ∈ (ps.map (·.arg)).drop us.length) (hn : (kws.map (·.1)).Nodup)
    (hr : bindGo kws dfl ((ps.map (·.arg)).drop us.length) = some r) : PySem.W.Looks M h (bindArgs fd ⟨us, kws⟩) ((ps.map (·.arg)).zip (us ++ r)) := by
  have hlP : (ps.map (·.arg)).length = ps.length := List.length_map _
  have zn : ∀ n ∈ (ps.map (·.arg)).drop us.length, ((ps.map (·.arg)).zip us).lookup n = none := fun n hn => by
    obtain ⟨i, hi⟩ := List.getElem?_of_mem hn
    rw [List.getElem?_drop] at hi
    rw [zip_at nd hi]
    exact List.getElem?_eq_none (by omega)
  unfold bindArgs
  simp only [hp, List.map_nil, List.nil_append, Option.isSome_none, Option.isNone_none, Bool.false_eq_true, if_false, List.contains_nil, Bool.or_false, List.append_nil, List.forIn_nil]
  generalize hP : ps.map (·.arg) = pos at *
  rw [forIn_kw (pos := pos) (fun q sl ex h1 h2 => by rw [if_pos h1, if_neg (by rw [h2]; decide)]) kws (pos.zip us) [] (fun q hq => by simpa using List.mem_of_mem_drop (hk q hq)) (fun q hq => zn q.1 (hk q hq)) hn]
  rw [pure_bind]
  refine look.andThen ?_
  have hdf : ((if dfl = [] then none else some dfl.toArray).getD #[]).toList = dfl := by
    split
    · rename_i z; rw [z]; rfl
    · rfl
  simp only [hdf, Bool.and_true]
  rw [if_neg (by simp only [decide_eq_true_eq]; omega)]
  have h0 : dfl.length - pos.length = 0 := by omega
  simp only [h0, List.drop_zero]
  have lr : (us ++ r).length = pos.length := by rw [List.length_append, bindGo_len hr, List.length_drop]; omega
  have key := fun i n e => bind_at (kws := kws) (dfl := dfl) nd (by omega) (by omega) hk hr i n e
  rw [if_neg (by
    rw [Bool.not_eq_true', Bool.not_eq_false]
    rw [List.isEmpty_iff, List.filter_eq_nil_iff]
    intro n hn2
    obtain ⟨i, hi⟩ := List.getElem?_of_mem hn2
    rw [List.getElem?_take] at hi
    split at hi
    · rename_i hlt
      have k := key i n hi
      have hip := (List.getElem?_eq_some_iff.mp hi).1
      rw [zip_not (pos := pos.drop (pos.length - dfl.length)) (fun z => by
        obtain ⟨j, hj⟩ := List.getElem?_of_mem z
        rw [List.getElem?_drop] at hj
        have e5 := (List.getElem?_eq_some_iff.mp hj)
        have e6 := (List.getElem?_eq_some_iff.mp hi)
        have := (List.getElem_inj nd).mp (e5.2.trans e6.2.symm)
        omega), Option.or_none] at k
      rw [k, List.getElem?_eq_getElem (by omega)]
      simp
    · cases hi)]
  obtain ⟨sl', e1, e2⟩ := forIn_dfl (f := fun x __s => if (List.lookup x.fst __s).isNone = true then pure (ForInStep.yield (__s ++ [(x.fst, x.snd)])) else pure (ForInStep.yield __s)) (fun q sl => by split <;> rfl) ((pos.drop (pos.length - dfl.length)).zip dfl) (pos.zip us ++ kws)
  rw [e1, pure_bind, pure_bind]
  refine .of_pure ?_
  show pure (pos.filterMap fun n => (sl'.lookup n).map (n, ·)) = _
  rw [zip_get (g := fun n => sl'.lookup n) (vals := us ++ r) lr.symm fun i n e => by rw [e2]; exact key i n e]
end Wk

set_option Elab.async false
set_option linter.all false
set_option maxRecDepth 100000
set_option maxHeartbeats 4100000
/-! Into a def and back. -/
namespace Wk
open PySem L2 PySem.Spec PyProof.Rows
section
variable {F : Frm} {M0 : Addr → Prop} {σ : L2.St} {e : Env} {s : Sto} {W : Wd}
theorem SF.there (h : SF F M0 σ e s W) {a : Addr} (m : W.Mu a) : ∃ o, W.H a = some o ∧ ∀ vs, o ≠ .tup vs := by
  have sh : ∀ {u : Own}, Shows F.G W a u → ∃ o, W.H a = some o ∧ ∀ vs, o ≠ .tup vs := fun {u} z => by
    obtain ⟨o, e⟩ := z.some
    refine ⟨o, e, fun vs q => ?_⟩
    subst q
    exact h.tup e m
  rcases (h.mu a).mp m with z | z | ⟨i, u, z1, z2⟩
  · exact h.m0 a z
  · obtain ⟨n, hn⟩ := List.getElem?_of_mem z
    have hl : n < s.length := by rw [← h.stl]; exact (List.getElem?_eq_some_iff.mp hn).1
    obtain ⟨b, e1, e2, _⟩ := h.sto n s[n] (by simp [hl])
    rw [hn] at e1
    cases e1
    exact sh e2
  · obtain ⟨b, e1, e2, _⟩ := h.own i u z1
    rw [z2] at e1
    cases e1
    exact sh e2
/-- a callee's frame -/
abbrev Frm.inn (F : Frm) (W : Wd) (E : XK) (I : Addr → Prop) : Frm := ⟨F.G, W.H, fun _ => False, E, fun a => a ∈ W.ρ, I⟩
abbrev inM (W : Wd) : Addr → Prop := fun a => W.Mu a ∧ a ∉ W.ρ
theorem startE_at {n : Nat} {ds : List D} {i : Nat} {d : D} (h : (startE n ds)[i]? = some (some (.val d))) : ds[i]? = some d := by
  unfold startE at h
  rw [List.getElem?_append] at h
  split at h
  · rw [List.getElem?_map] at h
    cases hd : ds[i]? with
    | none => rw [hd] at h; cases h
    | some x => rw [hd] at h; cases h; rfl
  · rw [List.getElem?_replicate] at h
    split at h <;> cases h
theorem startE_own {n : Nat} {ds : List D} {i : Nat} {o : Own} : (startE n ds)[i]? ≠ some (some (.own o)) := by
  intro h
  unfold startE at h
  rw [List.getElem?_append] at h
  split at h
  · rw [List.getElem?_map] at h
    cases hd : ds[i]? with
    | none => rw [hd] at h; cases h
    | some x => rw [hd] at h; cases h
  · rw [List.getElem?_replicate] at h
    split at h <;> cases h
theorem start_at {N : List Str} {vs : List V} {i : Nat} {v : V} (h : vs[i]? = some v) : (L2.start N vs)[i]? = some (some v) := by
  unfold L2.start
  have hl := (List.getElem?_eq_some_iff.mp h).1
  rw [List.getElem?_append_left (by rw [List.length_map]; exact hl), List.getElem?_map, h]
  rfl
theorem SF.enter (h : SF F M0 σ e s W) (E : XK) {N : List Str} {ds : List D} {vs : List V} (r : Reps F.G W ds vs) : SF (F.inn W E fun _ => False) (inM W) (L2.start N vs) (startE N.length ds) s W := by
  refine ⟨fun a => ⟨fun z => ?_, ?_⟩, ?_, fun i d q => ?_, fun i o q => absurd q startE_own, fun i j o o' a q => absurd q startE_own, h.stl, fun n o q => ?_, h.nd, fun a o q _ _ => q, fun a z => h.there z.1, fun a z => z.elim, fun a z => .inl z, fun i c ns ds a q => absurd q startE_own⟩
  · by_cases hr : a ∈ W.ρ
    · exact .inr (.inl hr)
    · exact .inl ⟨z, hr⟩
  · rintro (z | z | ⟨i, o, z1, _⟩)
    · exact z.1
    · exact h.cm a z
    · exact absurd z1 startE_own
  · unfold startE L2.start
    rw [List.length_append, List.length_append, List.length_map, List.length_map, List.length_replicate, List.length_replicate, r.length]
  · obtain ⟨v, e1, e2⟩ := r.at (startE_at q)
    exact ⟨v, start_at e1, e2⟩
  · obtain ⟨a, e1, e2, _⟩ := h.sto n o q
    exact ⟨a, e1, e2, fun z => z.2 (List.mem_of_getElem? e1)⟩
/-- and back -/
theorem SF.back (h : SF F M0 σ e s W) {E : XK} {X : Addr → Prop} {M1 : Addr → Prop} {σ' : L2.St} {e' : Env} {s' : Sto} {W2 : Wd} {I : Addr → Prop} (h2 : SF ⟨F.G, W.H, X, E, fun a => a ∈ W.ρ, I⟩ M1 σ' e' s' W2) (hM : ∀ a, W.Mu a → a ∉ W.ρ → M1 a) (hX : ∀ a, X a → False) (l : W.ρ <+: W2.ρ) :
    ∃ W3, W3.H = W2.H ∧ W3.ρ = W2.ρ ∧ Le W W3 ∧ Ls W2 W3 ∧ SF F M0 σ e s' W3 := by
  have new : ∀ a, a ∈ W2.ρ → a ∈ W.ρ ∨ W.H a = none := h2.fresh
  have sub : ∀ a, a ∈ W.ρ → a ∈ W2.ρ := fun a z => l.subset z
  have keep : ∀ a o, W.H a = some o → a ∉ W.ρ → W2.H a = some o := fun a o q z => h2.keep a o q (fun w => (new a w).elim z fun w' => by rw [q] at w'; cases w') (fun w => hX a w)
  let W3 : Wd := ⟨W2.ρ, fun a => W.Mu a ∨ a ∈ W2.ρ, W2.H⟩
  have l1 : Le W W3 := ⟨l, keep, fun a z => z.elim .inl fun z => (new a z).imp (h.cm a) id, new, h.cm⟩
  have l2 : Ls W2 W3 := ⟨List.prefix_refl _, fun _ _ q _ => q, fun a z => .inl (by
    rcases z with z | z
    · by_cases hr : a ∈ W.ρ
      · exact h2.cm a (sub a hr)
      · exact (h2.mu a).mpr (.inl (hM a z hr))
    · exact h2.cm a z)⟩
  have out : ∀ {a : Addr} {o : HO}, W.H a = some o → a ∉ W.ρ → a ∉ W2.ρ := fun q z w => (new _ w).elim z fun w' => by rw [q] at w'; cases w'
  refine ⟨W3, rfl, rfl, l1, l2, ⟨fun a => ⟨?_, ?_⟩, h.len, fun i d q => ?_, fun i o q => ?_, h.apart, h2.stl, fun n o q => ?_, h2.nd, fun a o q z1 z2 => ?_, fun a z => ?_, fun a z => ?_, fun a z => ?_, h.ins⟩⟩
  · rintro (z | z)
    · rcases (h.mu a).mp z with w | w | w
      · exact .inl w
      · exact .inr (.inl (sub a w))
      · exact .inr (.inr w)
    · exact .inr (.inl z)
  · rintro (z | z | z)
    · exact .inl ((h.mu a).mpr (.inl z))
    · exact .inr z
    · exact .inl ((h.mu a).mpr (.inr (.inr z)))
  · obtain ⟨v, e1, e2⟩ := h.val i d q
    exact ⟨v, e1, e2.le l1⟩
  · obtain ⟨a, e1, e2, e3, e4, e5⟩ := h.own i o q
    obtain ⟨u, eu⟩ := e2.some
    exact ⟨a, e1, e2.le l1 e4, e3, out eu e4, e5⟩
  · obtain ⟨a, e1, e2, e3⟩ := h2.sto n o q
    refine ⟨a, e1, e2.same l2 rfl, fun z => e3 (hM a ((h.mu a).mpr (.inl z)) (h.rho z))⟩
  · have z3 : a ∉ W.ρ := fun w => z1 (sub a w)
    exact keep a o (h.keep a o q z3 z2) z3
  · obtain ⟨o, q1, q2⟩ := h.m0 a z
    exact ⟨o, keep a o q1 (h.rho z), q2⟩
  · obtain ⟨o, q⟩ := h.xs a z
    by_cases hr : a ∈ W.ρ
    · obtain ⟨n, hn⟩ := List.getElem?_of_mem (sub a hr)
      have hl : n < s'.length := by rw [← h2.stl]; exact (List.getElem?_eq_some_iff.mp hn).1
      obtain ⟨b, e1, e2, _⟩ := h2.sto n s'[n] (by simp [hl])
      rw [hn] at e1
      cases e1
      exact e2.some
    · exact ⟨o, keep a o q hr⟩
  · rcases new a z with w | w
    · exact h.fresh a w
    · refine .inr ?_
      cases q : F.He a with
      | none => rfl
      | some o =>
        by_cases hx : F.Xs a
        · obtain ⟨u, q'⟩ := h.xs a hx
          rw [w] at q'; cases q'
        · by_cases hr : a ∈ W.ρ
          · obtain ⟨u, q'⟩ := h.there (h.cm a hr)
            rw [w] at q'; cases q'.1
          · rw [h.keep a o q hr hx] at w; cases w
/-- a new thing becomes a cell -/
theorem RvOk.cell {o : Own} {v : V} (h : RvOk F M0 σ e s W (.fr o) v) : ∃ W', W'.H = W.H ∧ Ls W W' ∧ SF F M0 σ e (s ++ [o]) W' ∧ Rep F.G W' (.ref s.length) v := by
  obtain ⟨p, rfl, sf, sh, nm, hHe, _⟩ := h
  have np : p ∉ W.ρ := sf.rho (.inr rfl)
  have nown : ∀ {i : Nat} {u : Own}, e[i]? = some (some (.own u)) → σ[i]? = some (some (.ref p)) → False := fun q1 q2 => sf.sep (.inr rfl) q1 q2
  have l : Ls W ⟨W.ρ ++ [p], W.Mu, W.H⟩ := ⟨List.prefix_append _ _, fun _ _ q _ => q, fun a z => .inl z⟩
  have shs : ∀ {a : Addr} {u : Own}, Shows F.G W a u → Shows F.G ⟨W.ρ ++ [p], W.Mu, W.H⟩ a u := fun {a u} z => z.same l rfl
  refine ⟨⟨W.ρ ++ [p], W.Mu, W.H⟩, rfl, l, ⟨fun a => (sf.mu a).trans ?_, sf.len, fun i d q => ?_, fun i u q => ?_, sf.apart, ?_, fun n u q => ?_, ?_, fun a u q z1 z2 => ?_, fun a z => sf.m0 a (.inl z), sf.xs, fun a z => ?_, sf.ins⟩, ?_⟩
  · rw [List.mem_append, List.mem_singleton]
    constructor
    · rintro ((z | z) | z | z)
      · exact .inl z
      · exact .inr (.inl (.inr z))
      · exact .inr (.inl (.inl z))
      · exact .inr (.inr z)
    · rintro (z | (z | z) | z)
      · exact .inl (.inl z)
      · exact .inr (.inl z)
      · exact .inl (.inr z)
      · exact .inr (.inr z)
  · obtain ⟨w, q1, q2⟩ := sf.val i d q
    exact ⟨w, q1, q2.ls l⟩
  · obtain ⟨a, q1, q2, q3, q4, q5⟩ := sf.own i u q
    refine ⟨a, q1, shs q2, fun z => q3 (.inl z), fun z => ?_, q5⟩
    rcases List.mem_append.mp z with z | z
    · exact q4 z
    · rw [List.mem_singleton] at z
      subst z
      exact nown q q1
  · rw [List.length_append, List.length_append, sf.stl]; rfl
  · by_cases hn : n < s.length
    · rw [List.getElem?_append_left hn] at q
      obtain ⟨a, q1, q2, q3⟩ := sf.sto n u q
      exact ⟨a, by rw [List.getElem?_append_left (by rw [sf.stl]; exact hn)]; exact q1, shs q2, fun z => q3 (.inl z)⟩
    · rw [List.getElem?_append_right (by omega)] at q
      have : n - s.length = 0 := by
        have := (List.getElem?_eq_some_iff.mp q).1
        simp at this
        omega
      rw [this] at q
      cases q
      refine ⟨p, ?_, shs sh, nm⟩
      have hn' : n = W.ρ.length := by rw [sf.stl]; omega
      rw [hn', List.getElem?_append_right (Nat.le_refl _), Nat.sub_self]
      rfl
  · rw [List.nodup_append]
    exact ⟨sf.nd, by simp, fun a ha b hb => by rw [List.mem_singleton] at hb; subst hb; rintro rfl; exact np ha⟩
  · exact sf.keep a u q (fun z => z1 (List.mem_append_left _ z)) z2
  · rcases List.mem_append.mp z with z | z
    · exact sf.fresh a z
    · rw [List.mem_singleton] at z
      subst z
      exact .inr hHe
  · simp only [Rep]
    refine ⟨p, rfl, ?_⟩
    rw [← sf.stl, List.getElem?_append_right (Nat.le_refl _), Nat.sub_self]
    rfl
end
end Wk

set_option Elab.async false
set_option linter.all false
set_option maxRecDepth 100000
set_option maxHeartbeats 4100000
/-! Defs. -/
namespace Wk
open PySem L2 PySem.Spec PyProof.Rows
structure Bg where
  P : Program
  w : World
  K : PySem.W.Frag
  mg : Str → Option Value
  base : Heap
  G : GS
structure InBg (B : Bg) (X : Cx) : Prop where
  P : X.prog = B.P
  w : X.w = B.w
  K : X.K = B.K
  mg : X.mg = B.mg
  base : X.base = B.base
  calm : X.calm = true
theorem InBg.same {B : Bg} {X X' : Cx} (h : InBg B X) (s : Same X X') : InBg B X' := ⟨s.prog.trans h.P, s.w.trans h.w, s.K.trans h.K, s.mg.trans h.mg, s.base.trans h.base, s.calm.trans h.calm⟩
abbrev ckOf (T : IT) (N : List Str) (sc : Scope) : Ck := ⟨T.names, fun t => (T.cls t).isSome, T.kn, N, sc⟩
/-- a def as it stands behind the top -/
structure FnSt (B : Bg) (k : Nat) (fi : FnI) (x qual : Str) (ps : List Arg) (kd : List (Option Expr)) (dx : List Expr) (body : List Stmt) (scope : Scope) (dvs : List V) (fd : FuncData) (N : List Str) : Prop where
  fn : FunD B.K x qual ⟨[], ps, none, [], kd, none, dx⟩ body scope dvs [] (B.G.fA k) fd
  pos : ps.map (·.arg) = fi.pos.map B.G.T.names
  sc : FnScope N (ps.map (·.arg)) scope
  loc : N.length = fi.nloc
  dfl : ∀ W, Reps B.G W fi.dfl dvs
  dl : fi.dfl.length ≤ fi.pos.length
  ck : chkB fi.body (ckOf B.G.T N scope) body = true
def CallsOk (B : Bg) (n k : Nat) : Prop := ∀ (F : Frm) (X : Cx), F.G = B.G → InBg B X → Room k X.A → X.A.guards = some [] → Takes X (fun c d _ H => F.Wx c d H) → ClOk F (callI B.G.T n) X
/-! ### a body's answer -/
section
variable {F : Frm} {M0 : Addr → Prop} {σ : L2.St} {e : Env} {s : Sto} {W : Wd}
theorem ExR.ls {G : GS} {W W' : Wd} {c : Nat} {a : Option D} {dd : Option Addr} (h : ExR G W c a dd) (l : Ls W W') (hH : W'.H = W.H) : ExR G W' c a dd := by
  cases a with
  | none => exact h
  | some d =>
    obtain ⟨f, q, v, h1, h2, h3, h4⟩ := h
    exact ⟨f, q, v, h1, h2, by rw [hH]; exact h3, h4.ls l⟩
theorem out_ret (sf : SF F M0 σ e s W) {fi : FnI} {r : O} {Q : VK} (q : Pk F M0 σ e W (retO F.G.T fi r) fun d s' W' => ∀ v, SF F M0 σ e s' W' → Rep F.G W' d v → Q v W'.H) :
    OutK (F.inn W F.Wx fun _ => False) (inM W) W { nx := fun _ H' => Q .non H', rt := Q } r := by
  have hM : ∀ a, W.Mu a → a ∉ W.ρ → inM W a := fun a h1 h2 => ⟨h1, h2⟩
  cases r with
  | no => exact q
  | bk e' s' => exact q.elim
  | ct e' s' => exact q.elim
  | ex c a s' =>
    intro σ' e' W2 dd l h2 hx
    obtain ⟨W3, hH, hρ, l1, l2, sf3⟩ := sf.back h2 hM (fun _ z => z) l.pre
    have := q W3 dd l1 sf3 (hx.ls l2 hH)
    rw [hH] at this
    exact this
  | nx e' s' =>
    intro σ' W2 l h2
    obtain ⟨W3, hH, hρ, l1, l2, sf3⟩ := sf.back h2 hM (fun _ z => z) l.pre
    have := q W3 l1 .non sf3 rep_non
    rw [hH] at this
    exact this
  | rt rv s' =>
    intro v σ' e' W2 l ok
    have slow : Pk F M0 σ e W (RS.ofO (frz F.G.T rv) s') (fun d s' W' => ∀ v, SF F M0 σ e s' W' → Rep F.G W' d v → Q v W'.H) → Q v W2.H := fun q => by
      obtain ⟨d, hd, q⟩ := q.ofO
      obtain ⟨W2', eH, l', sf', r'⟩ := ok.frz hd
      obtain ⟨W3, hH, hρ, l1, l2, sf3⟩ := sf.back sf' hM (fun _ z => z) (l.trans l'.ls).pre
      have := q W3 l1 v sf3 (r'.ls l2)
      rw [hH, eH] at this
      exact this
    have q : Pk F M0 σ e W (match fi.cell, rv with
      | true, .fr o => .ok (.ref s'.length) (s' ++ [o])
      | _, rv => RS.ofO (frz F.G.T rv) s') fun d s' W' => ∀ v, SF F M0 σ e s' W' → Rep F.G W' d v → Q v W'.H := q
    cases hc : fi.cell with
    | false => rw [hc] at q; exact slow q
    | true =>
      rw [hc] at q
      cases rv with
      | val d => exact slow q
      | fr o =>
        obtain ⟨W2', eH, l', sf', r'⟩ := ok.cell
        obtain ⟨W3, hH, hρ, l1, l2, sf3⟩ := sf.back sf' hM (fun _ z => z) (l.trans l').pre
        have := q W3 l1 v sf3 (r'.ls l2)
        rw [hH, eH] at this
        exact this
end
/-! ### binding, by trees and by values -/
section
variable {G : GS} {W : Wd}
theorem lookup_rel {n : Nat} : ∀ {kn : List Nat} {es : List D} {zs : List V} {ws : List Value}, Reps G W es zs → Vals zs ws → kn.length = es.length → (∀ k ∈ kn, G.T.names k = G.T.names n → k = n) →
    ((kn.zip es).lookup n = none ∧ ((kn.map G.T.names).zip ws).lookup (G.T.names n) = none) ∨ ∃ d v u, (kn.zip es).lookup n = some d ∧ ((kn.map G.T.names).zip ws).lookup (G.T.names n) = some u ∧ RelV v u ∧ Rep G W d v
  | [], es, zs, ws, _, _, _, _ => .inl ⟨rfl, rfl⟩
  | k :: kn, [], _, _, _, _, h, _ => by simp at h
  | k :: kn, d :: es, zs, ws, r, rv, hl, inj => by
    simp only [Reps] at r
    obtain ⟨v, zs', rfl, r1, r2⟩ := r
    cases rv with
    | cons q1 q2 =>
      rw [List.zip_cons_cons, List.map_cons, List.zip_cons_cons, List.lookup_cons, List.lookup_cons]
      by_cases hk : n = k
      · subst hk
        rw [beq_self_eq_true, beq_self_eq_true]
        exact .inr ⟨d, v, _, rfl, rfl, q1, r1⟩
      · have h1 : (n == k) = false := beq_eq_false_iff_ne.mpr hk
        have h2 : (G.T.names n == G.T.names k) = false := beq_eq_false_iff_ne.mpr fun z => hk (inj k List.mem_cons_self z.symm).symm
        rw [h1, h2]
        exact lookup_rel r2 q2 (Nat.succ.inj hl) fun j hj => inj j (List.mem_cons_of_mem _ hj)
theorem bindGo_rel {kn : List Nat} {es dfl : List D} {zs dvs : List V} {ws dus : List Value} (r : Reps G W es zs) (rv : Vals zs ws) (hl : kn.length = es.length) (rd : Reps G W dfl dvs) (rdv : Vals dvs dus) : ∀ {ns : List Nat} {rs : List D}, (∀ n ∈ ns, ∀ k ∈ kn, G.T.names k = G.T.names n → k = n) → bindGo (kn.zip es) dfl ns = some rs →
    ∃ rvs rus, bindGo ((kn.map G.T.names).zip ws) dus (ns.map G.T.names) = some rus ∧ Vals rvs rus ∧ Reps G W rs rvs
  | [], rs, _, h => by cases h; exact ⟨[], [], rfl, .nil, .nil⟩
  | n :: ns, rs, inj, h => by
    simp only [bindGo, Option.bind_eq_some_iff, Option.map_eq_some_iff] at h
    obtain ⟨d, h1, rs', h2, rfl⟩ := h
    obtain ⟨rvs, rus, q1, q2, q3⟩ := bindGo_rel r rv hl rd rdv (ns := ns) (fun m hm => inj m (List.mem_cons_of_mem _ hm)) h2
    have key : ∃ v u, argOf ((kn.map G.T.names).zip ws) dus ((ns.map G.T.names).length + 1) (G.T.names n) = some u ∧ RelV v u ∧ Rep G W d v := by
      unfold argOf at h1 ⊢
      rcases lookup_rel (n := n) r rv hl (inj n List.mem_cons_self) with ⟨z1, z2⟩ | ⟨d', v, u, z1, z2, z3, z4⟩
      · rw [z1] at h1
        rw [z2]
        dsimp only at h1 ⊢
        have l1 := rd.length
        have l2 := rdv.length
        rw [List.length_map]
        split at h1
        · rw [if_pos (by omega)]
          obtain ⟨v, e1, e2⟩ := rd.at h1
          obtain ⟨u, e3, e4⟩ := rdv.get e1
          exact ⟨v, u, by rw [← l2, ← l1]; exact e3, e4, e2⟩
        · cases h1
      · rw [z1] at h1
        cases h1
        rw [z2]
        exact ⟨v, u, rfl, z3, z4⟩
    obtain ⟨v, u, k1, k2, k3⟩ := key
    refine ⟨v :: rvs, u :: rus, ?_, .cons k2 q2, .cons k3 q3⟩
    rw [List.map_cons]
    simp only [bindGo]
    rw [k1, q1]
    rfl
end
/-! ### a def's rule -/
section
variable {B : Bg} {n k f : Nat} {fi : FnI} {x qual : Str} {ps : List Arg} {kd : List (Option Expr)} {dx : List Expr} {body : List Stmt} {scope : Scope} {dvs : List V} {fd : FuncData} {N : List Str}
structure Stat (B : Bg) : Prop where
  gl : GlOk B.G B.w
  mg : MgOk B.G B.mg
  ty : TyOk B.G B.K B.mg
  K : B.K = B.G.K
/-- a body's context -/
theorem xst_of (S : Stat B) (hC : CallsOk B n k) (hs : FnScope N (ps.map (·.arg)) scope) {F : Frm} (hF : F.G = B.G) {A : Around} {outer : List PySem.Env} {s : Shared} {H : Hp} {cdv : Value} (hr : Room k (A.deeper (envOfC qual scope s.heap.objs.size (B.G.fA f) cdv))) (hg : A.guards = some []) :
    XSt F (callI F.G.T n) (ckOf F.G.T N scope) (cxOf (L2.CX B.P B.w) B.P B.w B.K B.mg B.base N qual scope (B.G.fA f) cdv A outer s H F.Wx) := by
  have tk : Takes (cxOf (L2.CX B.P B.w) B.P B.w B.K B.mg B.base N qual scope (B.G.fA f) cdv A outer s H F.Wx) (fun c d _ H => F.Wx c d H) := takes_of rfl rfl rfl rfl
  refine { K := by rw [hF]; exact S.K, calm := rfl, nd := hs.nd, N := rfl, kind := hs.kind, sc := rfl, sk := hs.kind, nm := rfl, ck := fun t h => h, gl := by rw [hF]; exact S.gl, mg := by rw [hF]; exact S.mg, ty := by rw [hF]; exact S.ty, hu := ?_, gd := hg, tk := tk, kn := fun f h => h, cl := fun F' X' hF' hS hT => ?_, fn := fun _ => rfl, po := passes_of rfl }
  · have := hr.un
    show (A.deeper _).units + 65 < cLine
    omega
  · have e1 : F'.G = B.G := hF'.trans hF
    have := hC F' X' e1 (InBg.same ⟨rfl, rfl, rfl, rfl, rfl, rfl⟩ hS) (by rw [hS.A]; exact hr) (by rw [hS.A]; exact hg) hT
    rw [hF]
    exact this
/-- a def's promise where no repr is under way -/
def FnG (P : Program) (w : World) (K : PySem.W.Frag) (mg : Str → Option Value) (base : Heap) (k : Nat) (f : Addr) (fd : FuncData) (ps : List Str) (sp : Sp) : Prop :=
  ∀ (A : Around) (outer : List PySem.Env) (s : Shared) (H : Hp) (as : Args) (us : List Value) (vs : List V) (Q : VK) (E : XK), Room k A → A.guards = some [] → Env0 P w K mg base A outer s H → BindsTo s fd as (ps.zip us) → Vals vs us → sp vs H Q E → codeAny (model P w) A (.call (.ref f) as) (CR (L2.CX P w) outer P w H s Q E) s
theorem fng_of {P : Program} {w : World} {K : PySem.W.Frag} {mg : Str → Option Value} {base : Heap} {k f : Nat} {x qual : Str} {pr : Arguments} {body : List Stmt} {scope : Scope} {dvs : List V} {kws : List (Str × V)} {fd : FuncData} {N ps : List Str} {sp : Sp} (D : FunD K x qual pr body scope dvs kws f fd) (S : FnScope N ps scope) (len : ∀ vs H Q E, sp vs H Q E → vs.length = ps.length)
    (hb : ∀ (cdv : Value) (A : Around) (outer : List PySem.Env) (s : Shared) (H : Hp) (vs : List V) (Q : VK) (E : XK), Room k (A.deeper (envOfC qual scope s.heap.objs.size f cdv)) → A.guards = some [] → sp vs H Q E →
      ∃ t, PSs (cxOf (L2.CX P w) P w K mg base N qual scope f cdv A outer s H E) body t ∧ t { nx := fun _ H' => Q .non H', rt := Q } (L2.start N vs) H) : FnG P w K mg base (k + 1) f fd ps sp := by
  intro A outer s H as us vs Q E hr hg e0 bt rv hsp
  obtain ⟨oc, od, dV, kV, doc, pm, an, cdv, ct, osl, rfl, lk, hcd, _, _⟩ := D.ex
  refine StX.run_bnd (G := fun vs' H2 => vs' = vs ∧ H2 = H) lk hcd S hr e0 (fun A' Ex Q' h => bt _ _ _ _ (h s H vs us e0 Un.refl rfl (fun _ _ z => z) rv (len _ _ _ _ hsp) ⟨rfl, rfl⟩)) fun s2 H2 vs' ⟨e1, e2⟩ hr' => ?_
  subst e1 e2
  exact hb cdv A outer s2 H2 vs' Q E hr' hg hsp
def spF (B : Bg) (n : Nat) (fi : FnI) : Sp := fun vs H Q E => ∃ (F : Frm) (M0 : Addr → Prop) (σ : L2.St) (e : Env) (st : Sto) (W : Wd) (ds : List D), F.G = B.G ∧ F.Wx = E ∧ W.H = H ∧ SF F M0 σ e st W ∧ Reps F.G W ds vs ∧ ds.length = fi.pos.length ∧
  Pk F M0 σ e W (retO F.G.T fi (exB F.G.T (callI F.G.T n) fi.body (startE fi.nloc ds) st)) fun d s' W' => ∀ v, SF F M0 σ e s' W' → Rep F.G W' d v → Q v W'.H
theorem fn_rule (S : Stat B) (hC : CallsOk B n k) (h : FnSt B f fi x qual ps kd dx body scope dvs fd N) : FnG B.P B.w B.K B.mg B.base (k + 1) (B.G.fA f) fd (ps.map (·.arg)) (spF B n fi) := by
  refine fng_of h.fn h.sc (fun vs H Q E ⟨F, M0, σ, e, st, W, ds, _, _, _, _, r, hl, _⟩ => by rw [← r.length, hl, h.pos, List.length_map]) fun cdv A outer s H vs Q E hr hg ⟨F, M0, σ, e, st, W, ds, hF, hE, eH, sf, r, hl, q⟩ => ?_
  subst hE
  subst eH
  have hX := xst_of (F := F.inn W F.Wx fun _ => False) (f := f) (outer := outer) (H := W.H) S hC h.sc hF hr hg
  refine ⟨_, bl_ok (b := fi.body) hX (by show chkB fi.body (ckOf F.G.T N scope) body = true; rw [hF]; exact h.ck), inM W, startE N.length ds, st, W, rfl, sf.enter F.Wx r, ?_⟩
  rw [h.loc]
  exact out_ret sf q
theorem rd_dfl {K : PySem.W.Frag} {dV : Value} {dvs : List V} (h : DflV K dV dvs) : ∃ dus : List Value, Vals dvs dus ∧ ∀ (M : Model) (hp : Heap), K.In hp → PySem.W.Looks M hp (seqItems? dV) (if dus = [] then none else some dus.toArray) := by
  rcases h with ⟨rfl, rfl⟩ | ⟨ne, T, o, its, n, rfl, lT, oT, rT⟩
  · exact ⟨[], .nil, fun _ _ _ => .of_pure rfl⟩
  · refine ⟨its, rT, fun M hp hK => ?_⟩
    have hne : its ≠ [] := by rintro rfl; cases rT; exact ne rfl
    rw [if_neg hne]
    have := looks_items (k := fun o => pure o) hK lT oT (r := some its.toArray) (M := M) (.of_pure rfl)
    rwa [bind_pure] at this
/-- the parameters bound; us0: an instance ahead -/
theorem bind_ok (h : FnSt B f fi x qual ps kd dx body scope dvs fd N) {F : Frm} (hF : F.G = B.G) {W : Wd} {us0 us ws : List Value} {vs zs : List V} {ds es full : List D} {kn : List Nat} (h0 : us0.length ≤ fi.pos.length) (rV : Vals vs us) (rD : Reps F.G W ds vs) (rZ : Vals zs ws) (rE : Reps F.G W es zs) (hlen : kn.length = es.length)
    (hb : bindP (fi.pos.drop us0.length) fi.dfl ds (kn.zip es) = some full) : ∃ (rvs : List V) (rus : List Value) (rs : List D), full = ds ++ rs ∧ Vals rvs rus ∧ Reps F.G W rs rvs ∧ us0.length + full.length = fi.pos.length ∧ ∀ s : Shared, B.K.In s.heap → BindsTo s fd ⟨us0 ++ us, (kn.map F.G.T.names).zip ws⟩ ((ps.map (·.arg)).zip (us0 ++ us ++ rus)) := by
  unfold bindP at hb
  split at hb
  case isFalse => cases hb
  rename_i hcond
  simp only [Bool.and_eq_true, decide_eq_true_eq, List.all_eq_true] at hcond
  obtain ⟨⟨c1, c2⟩, c3⟩ := hcond
  simp only [Option.map_eq_some_iff] at hb
  obtain ⟨rs, hgo, rfl⟩ := hb
  have zk : (kn.zip es).map (·.1) = kn := List.map_fst_zip (Nat.le_of_eq hlen)
  rw [zk] at c3
  have lus : us.length = ds.length := by rw [← rV.length, ← rD.length]
  have dd : (fi.pos.drop us0.length).drop ds.length = fi.pos.drop (us0 ++ us).length := by rw [List.drop_drop, List.length_append, lus]
  rw [dd] at c2 hgo
  rw [List.length_drop] at c1
  have hkn : ∀ j ∈ kn, j ∈ fi.pos.drop (us0 ++ us).length := fun j hj => by
    rw [← zk] at hj
    obtain ⟨p, hp, rfl⟩ := List.mem_map.mp hj
    simpa using c2 p hp
  have ndn : (fi.pos.map B.G.T.names).Nodup := by
    rw [← h.pos, ← h.sc.pre]
    exact h.sc.nd.sublist (List.take_sublist _ _)
  have inj : ∀ a ∈ fi.pos, ∀ b ∈ fi.pos, B.G.T.names b = B.G.T.names a → b = a := fun a ha b hb hab => by
    obtain ⟨i, hi⟩ := List.getElem?_of_mem ha
    obtain ⟨j, hj⟩ := List.getElem?_of_mem hb
    have hi' : (fi.pos.map B.G.T.names)[i]? = some (B.G.T.names a) := by rw [List.getElem?_map, hi]; rfl
    have hj' : (fi.pos.map B.G.T.names)[j]? = some (B.G.T.names a) := by rw [List.getElem?_map, hj, ← hab]; rfl
    have e1 := List.getElem?_eq_some_iff.mp hi'
    have e2 := List.getElem?_eq_some_iff.mp hj'
    have e3 := (List.getElem_inj ndn).mp (e1.2.trans e2.2.symm)
    subst e3
    rw [hi] at hj
    cases hj
    rfl
  obtain ⟨oc, od, dV, kV, doc, pm, an, cdv, ct, osl, efd, lk, hcd, hD, hK⟩ := h.fn.ex
  obtain ⟨dus, rdv, hlook⟩ := rd_dfl hD
  obtain ⟨rvs, rus, g1, g2, g3⟩ := bindGo_rel (G := F.G) (W := W) rE rZ hlen (by rw [hF]; exact h.dfl W) rdv (ns := fi.pos.drop (us0 ++ us).length) (fun m hm j hj => by rw [hF]; exact inj m (List.mem_of_mem_drop hm) j (List.mem_of_mem_drop (hkn j hj))) hgo
  have posl : ps.length = fi.pos.length := by
    have := congrArg List.length h.pos
    simpa using this
  have tot : (us0 ++ us).length ≤ fi.pos.length := by rw [List.length_append, lus]; omega
  have drop_eq : (ps.map (·.arg)).drop (us0 ++ us).length = (fi.pos.drop (us0 ++ us).length).map B.G.T.names := by rw [h.pos, List.map_drop]
  have hl2 : dus.length ≤ ps.length := by rw [← rdv.length, ← (h.dfl W).length, posl]; exact h.dl
  refine ⟨rvs, rus, rs, rfl, g2, g3, ?_, fun s kin => BindsTo.of_looks fun M => ?_⟩
  · rw [List.length_append, bindGo_len hgo, List.length_drop, List.length_append, lus]
    rw [List.length_append, lus] at tot
    omega
  refine bindArgs_plain (ps := ps) (kd := kd) (ds := dx) (dfl := dus) (by rw [efd]) (by rw [efd]; exact hlook M s.heap kin) (by rw [h.pos]; exact ndn) (by rw [posl]; exact tot) hl2 (fun p hp => ?_) ?_ (by rw [drop_eq, ← hF]; exact g1)
  · rw [drop_eq]
    have := List.of_mem_zip hp
    obtain ⟨j, hj, ej⟩ := List.mem_map.mp this.1
    rw [← ej, hF]
    exact List.mem_map_of_mem (hkn j hj)
  · rw [List.map_fst_zip (by rw [List.length_map, hlen, rE.length]; exact Nat.le_of_eq rZ.length)]
    rw [hF]
    rw [List.nodup_iff_pairwise_ne, List.pairwise_map]
    refine (List.nodup_iff_pairwise_ne.mp c3).imp_of_mem fun {a b} ha hb hab z => hab ?_
    exact inj b (List.mem_of_mem_drop (hkn b hb)) a (List.mem_of_mem_drop (hkn a ha)) z
theorem under_make {A : Around} {C : Value} {us : List Value} {kw : List (Str × Value)} (hg : A.guards = some []) : (A.under (.builtin "type.__call__" ⟨C :: us, kw⟩)).guards = some [] := by
  simp only [Around.under]
  rw [hg]
  rfl
/-- a call of a def -/
theorem clr_fn (S : Stat B) (hC : CallsOk B n k) (h : FnSt B f fi x qual ps kd dx body scope dvs fd N) (hf : B.G.T.fn f = some fi) (hc : B.G.T.cls f = none) {F : Frm} {X : Cx} (hF : F.G = B.G) (hX : InBg B X) (hr : Room (k + 1) X.A) (hg : X.A.guards = some []) (tk : Takes X (fun c d _ H => F.Wx c d H)) :
    ClR F (callI B.G.T (n + 1)) X f (B.G.fA f) := by
  intro pins s σ σ' W M0 e st ds vs us kn es zs ws Q I sf rV rZ rD rE hlen q
  obtain ⟨e1, e2, e3, e4, e5, e6⟩ := hX
  have q : Pk F M0 σ' e W (callF B.G.T (callI B.G.T n) fi ds (kn.zip es) st) fun d s' W' => ∀ v, SF F M0 σ' e s' W' → Rep F.G W' d v → Q v W'.H := by
    have ez : callI B.G.T (n + 1) f ds (kn.zip es) st = callF B.G.T (callI B.G.T n) fi ds (kn.zip es) st := by
      show (match B.G.T.cls f with | some ci => _ | none => _) = _
      rw [hc]
      dsimp only
      rw [hf]
    rw [← ez]
    exact q
  unfold callF at q
  cases hb : bindP fi.pos fi.dfl ds (kn.zip es) with
  | none => rw [hb] at q; exact q.elim
  | some full =>
  rw [hb] at q
  obtain ⟨rvs, rus, rs, rfl, g2, g3, len, bt⟩ := bind_ok (us0 := []) h hF (Nat.zero_le _) rV rD rZ rE hlen hb
  have kin : B.K.In s.heap := by rw [← e3]; exact I.kIn
  have fr := fn_rule S hC h
  rw [← e1, ← e2, ← e3, ← e4, ← e5] at fr
  have sp : spF B n fi (vs ++ rvs) W.H Q F.Wx := ⟨F, M0, σ', e, st, W, ds ++ rs, hF, rfl, rfl, sf, rD.append g3, by simpa using len, by rw [hF]; rw [hF] at q; exact q⟩
  refine wpAny_call (codeAny_mono (fr X.A X.stack s W.H ⟨us, (kn.map F.G.T.names).zip ws⟩ (us ++ rus) (vs ++ rvs) Q F.Wx hr hg I.env0 (bt s kin) (rV.append g2) sp) fun r s' hq => ?_)
  match r with
  | .error z => exact passes_call tk (fun _ _ _ _ z => z) pins σ W.H s z s' I hq
  | .ok (.ret _) => exact I.after hq
  | .ok .next | .ok .brk | .ok .cont => exact hq.elim
/-- a property, read -/
theorem clr_prop (S : Stat B) (hC : CallsOk B n k) (h : FnSt B f fi x qual ps kd dx body scope dvs fd N) (hf : B.G.T.fn f = some fi) (hc : B.G.T.cls f = none) (h1 : fi.pos.length = 1) {C p : Addr} {m : Str} (cC : Cls B.K C) (hp : PropOf B.K C m p (B.G.fA f)) {F : Frm} {X : Cx} (hF : F.G = B.G) (hX : InBg B X) (hr : Room (k + 2) X.A) (hg : X.A.guards = some [])
    (pins : List (Addr × Obj)) (s : Shared) (σ σ' : L2.St) (W : Wd) (M0 : Addr → Prop) (e : Env) (st st' : Sto) (d d' : D) (a ad : Addr) (fs : List (Str × V)) (Q : VK) (b : Bool) (I : L2.Inv X pins σ W.H s) (sf : SF F M0 σ' e st W) (ea : W.H a = some (.ins C ad fs)) (r : Rep F.G W d (.ref a))
    (ez : callI B.G.T (n + 1) f [d] [] st = .ok d' st') (q : ∀ W', Le W W' → ∀ v, SF F M0 σ' e st' W' → Rep F.G W' d' v → Q v W'.H) : wpAny (model X.prog X.w) X.A (getAttr (.ref a) m b) (EP X pins σ Q) X.xe s := by
  obtain ⟨e1, e2, e3, e4, e5, e6⟩ := hX
  let F' : Frm := ⟨F.G, F.He, F.Xs, fun _ _ _ => False, F.R, F.I⟩
  have to' : ∀ {st W}, SF F M0 σ' e st W → SF F' M0 σ' e st W := fun z => ⟨z.mu, z.len, z.val, z.own, z.apart, z.stl, z.sto, z.nd, z.keep, z.m0, z.xs, z.fresh, z.ins⟩
  have of' : ∀ {st W}, SF F' M0 σ' e st W → SF F M0 σ' e st W := fun z => ⟨z.mu, z.len, z.val, z.own, z.apart, z.stl, z.sto, z.nd, z.keep, z.m0, z.xs, z.fresh, z.ins⟩
  have eb : bindP fi.pos fi.dfl [d] [] = some [d] := by
    match fi.pos, h1 with
    | [y], _ => rfl
  have ez' : retO B.G.T fi (exB B.G.T (callI B.G.T n) fi.body (startE fi.nloc [d]) st) = .ok d' st' := by
    have : callI B.G.T (n + 1) f [d] [] st = callF B.G.T (callI B.G.T n) fi [d] [] st := by
      show (match B.G.T.cls f with | some ci => _ | none => _) = _
      rw [hc]
      dsimp only
      rw [hf]
    rw [this] at ez
    unfold callF at ez
    rw [eb] at ez
    exact ez
  have fr := fn_rule S hC h
  rw [← e1, ← e2, ← e3, ← e4, ← e5] at fr
  have sp : spF B n fi [.ref a] W.H Q fun _ _ _ => False := by
    refine ⟨F', M0, σ', e, st, W, [d], hF, rfl, rfl, to' sf, .cons r .nil, by rw [h1]; rfl, ?_⟩
    show Pk F' M0 σ' e W (retO F.G.T fi (exB F.G.T (callI F.G.T n) fi.body (startE fi.nloc [d]) st)) _
    have z : retO F.G.T fi (exB F.G.T (callI F.G.T n) fi.body (startE fi.nloc [d]) st) = .ok d' st' := by rw [hF]; exact ez'
    rw [z]
    exact fun W' l v sf2 r2 => q W' l v (of' sf2) r2
  have bd : Binds X.K fd (ps.map (·.arg)) [] := fun s us kin hl => by
    have hl' : us.length = 1 := by
      rw [List.append_nil] at hl
      rw [hl, h.pos, List.length_map, h1]
    have eb2 : bindP (fi.pos.drop us.length) fi.dfl [] (([] : List Nat).zip ([] : List D)) = some [] := by
      rw [hl']
      match fi.pos, h1 with
      | [y], _ => rfl
    obtain ⟨rvs, rus, rs, g0, g2, g3, len, bt⟩ := bind_ok (us0 := us) (us := []) (ws := []) (vs := []) (zs := []) (ds := []) (es := []) (kn := []) (F := F) (W := W) h hF (by rw [hl', h1]; exact Nat.le_refl _) .nil .nil .nil .nil rfl eb2
    have e0 : rs = [] := by simpa using g0.symm
    subst e0
    have l0 := g3.length
    have l2 := g2.length
    have : rus = [] := List.eq_nil_of_length_eq_zero (by rw [← l2, ← l0]; rfl)
    subst this
    have := bt s (by rw [← e3]; exact kin)
    simpa using this
  obtain ⟨view, whole, -⟩ := ins_get I.hok ea
  obtain ⟨od, J, -⟩ := whole.look
  obtain ⟨more, hrec⟩ := hp.rec_
  have I1 := I.tok (s.toks + 1)
  have cC' : Cls X.K C := by rw [e3]; exact cC
  have kc : (PySem.W.clsIn X.K C).isSome = true := by
    obtain ⟨cd, kc, _⟩ := PySem.W.any_some cC'.hd
    simp [kc]
  have bt := bd { s with toks := s.toks + 1 } [.ref a] I1.kIn (by rw [h.pos]; simp [h1])
  rw [← e3] at hp hrec
  refine PySem.W.get_bind I.kIn J (PySem.W.plainGet_of (cC'.get m)).1 (PySem.W.findObj_data kc hp.at_ hp.get hp.tak) (PySem.W.plainGet_of (cC'.get m)).2 (wpAny_call (PySem.W.prop_get (s := { s with toks := s.toks + 1 }) I.kIn hrec ?_))
  refine codeAny_mono (fr X.A.in1 X.stack { s with toks := s.toks + 1 } W.H ⟨[.ref a], []⟩ [.ref a] [.ref a] Q (fun _ _ _ => False) hr.in1 hg I1.env0.in1 (by simpa using bt) (.cons (show RelV (.ref a) (.ref a) from rfl) .nil) sp) fun z s2 hq => ?_
  match z, hq with
  | .ok (.ret t), hq =>
    obtain ⟨v, H2, I3, rv, q3⟩ := I1.after hq
    show wpAny _ _ (handedOut t) _ _ _
    simp only [PySem.W.handedOut_of (handed_of rv)]
    exact wpAny_pure ⟨v, H2, I3, rv, q3⟩
  | .ok .next, hq => exact hq.elim
  | .ok .brk, hq => exact hq.elim
  | .ok .cont, hq => exact hq.elim
  | .error t, hq =>
    obtain ⟨_, _, _, _, _, _, _, _, _, _, _, _, z⟩ := hq
    exact z.elim
/-! ### instances -/
abbrev inI (W : Wd) (p : Addr) : Addr → Prop := fun a => W.Mu a ∧ a ∉ W.ρ ∧ a ≠ p
theorem SF.enterI {F : Frm} {M0 : Addr → Prop} {σ : L2.St} {e : Env} {st : Sto} {W W1 : Wd} {p : Addr} (h : SF F (fun a => M0 a ∨ a = p) σ e st W1) (E : XK) {N : List Str} {ds : List D} {vs : List V} {c : Nat} {ci : ClsI} {dd : Addr} (hρ : W1.ρ = W.ρ) (hp : W.H p = none) (kp : ∀ a o, W.H a = some o → W1.H a = some o)
    (r : Reps F.G W1 ds vs) (hH : W1.H p = some (.ins (F.G.cA c) dd [])) (hc : F.G.T.cls c = some ci) : SF ⟨F.G, W.H, fun _ => False, E, fun a => a ∈ W.ρ, fun a => a = p⟩ (inI W1 p) (L2.start N (.ref p :: vs)) (some (.own (.ins c [] [])) :: startE (N.length - 1) ds) st W1 := by
  have np : p ∉ W1.ρ := h.rho (.inr rfl)
  have mp : W1.Mu p := (h.mu p).mpr (.inl (.inr rfl))
  have s0 : (L2.start N (.ref p :: vs))[0]? = some (some (.ref p)) := rfl
  have here : ∀ {i : Nat} {o : Own}, (some (Sv.own (.ins c [] [])) :: startE (N.length - 1) ds)[i]? = some (some (.own o)) → i = 0 ∧ o = .ins c [] [] := fun {i o} q => by
    cases i with
    | zero => cases q; exact ⟨rfl, rfl⟩
    | succ i => rw [List.getElem?_cons_succ] at q; exact absurd q startE_own
  have ns : ∀ {n : Nat} {o : Own} {a : Addr}, W1.ρ[n]? = some a → a ≠ p := fun e1 z => np (z ▸ List.mem_of_getElem? e1)
  refine ⟨fun a => ⟨fun z => ?_, ?_⟩, ?_, fun i d q => ?_, fun i o q => ?_, fun i j o o' a q q' _ _ => ?_, h.stl, fun n o q => ?_, h.nd, fun a o q _ _ => kp a o q, fun a z => h.there z.1, fun a z => z.elim, fun a z => .inl (hρ ▸ z), fun i c' ns' ds' a q q' => ?_⟩
  · by_cases hr : a ∈ W1.ρ
    · exact .inr (.inl hr)
    · by_cases ha : a = p
      · subst ha
        exact .inr (.inr ⟨0, _, rfl, s0⟩)
      · exact .inl ⟨z, hr, ha⟩
  · rintro (z | z | ⟨i, o, z1, z2⟩)
    · exact z.1
    · exact h.cm a z
    · obtain ⟨rfl, _⟩ := here z1
      rw [s0] at z2
      cases z2
      exact mp
  · unfold startE L2.start
    rw [List.length_cons, List.length_append, List.length_append, List.length_map, List.length_map, List.length_replicate, List.length_replicate, List.length_cons, r.length]
    omega
  · cases i with
    | zero => cases q
    | succ i =>
      rw [List.getElem?_cons_succ] at q
      obtain ⟨v, e1, e2⟩ := r.at (startE_at q)
      exact ⟨v, start_at (by rw [List.getElem?_cons_succ]; exact e1), e2⟩
  · obtain ⟨rfl, rfl⟩ := here q
    exact ⟨p, s0, ⟨dd, [], hH, rfl, .nil, ci, hc, nofun⟩, fun z => z.2.2 rfl, np, .inl hp⟩
  · obtain ⟨rfl, _⟩ := here q
    obtain ⟨rfl, _⟩ := here q'
    rfl
  · obtain ⟨a, e1, e2, _⟩ := h.sto n o q
    exact ⟨a, e1, e2, fun z => z.2.1 (List.mem_of_getElem? e1)⟩
  · obtain ⟨rfl, _⟩ := here q
    rw [s0] at q'
    cases q'
    rfl
/-- what __init__ leaves -/
theorem out_make {F : Frm} {M0 M1 : Addr → Prop} {σ : L2.St} {e : Env} {st : Sto} {W W1 : Wd} {p : Addr} (sf : SF F M0 σ e st W) (hM : ∀ a, W.Mu a → a ∉ W.ρ → M1 a) (hρ : W1.ρ = W.ρ) {r : O} {Q : VK} (q : Pk F M0 σ e W (makeK F.G.T r) fun d s' W' => ∀ v, SF F M0 σ e s' W' → Rep F.G W' d v → Q v W'.H) {Q' : VK} (hQ : ∀ H', Q (.ref p) H' → Q' .non H') :
    OutK ⟨F.G, W.H, fun _ => False, F.Wx, fun a => a ∈ W.ρ, fun a => a = p⟩ M1 W1 { nx := fun _ H' => Q' .non H', rt := Q' } r := by
  cases r with
  | no => exact q
  | bk e' s' => exact q.elim
  | ct e' s' => exact q.elim
  | rt rv s' => exact q.elim
  | ex c a s' =>
    intro σ' e' W2 dd l h2 hx
    obtain ⟨W3, hH, _, l1, l2, sf3⟩ := sf.back h2 hM (fun _ z => z) (hρ ▸ l.pre)
    have := q W3 dd l1 sf3 (hx.ls l2 hH)
    rw [hH] at this
    exact this
  | nx e' s' =>
    intro σ' W2 l h2
    have q : Pk F M0 σ e W (match (e'[0]? : Option (Option Sv)) with
      | some (some (Sv.own (Own.ins c' ns ds))) => RS.ofO (treeO F.G.T (.ins c' ns ds)) s'
      | _ => .no) fun d s' W' => ∀ v, SF F M0 σ e s' W' → Rep F.G W' d v → Q v W'.H := q
    split at q
    · rename_i c' ns ds e0
      obtain ⟨d, hd, q⟩ := q.ofO
      obtain ⟨a, z1, z2, z3, z4, z5⟩ := h2.own 0 _ e0
      have : a = p := h2.ins 0 c' ns ds a e0 z1
      subst this
      obtain ⟨W2', eH, l', sf'⟩ := h2.mv e0 hd
      obtain ⟨v, y1, y2⟩ := sf'.val 0 d (by rw [List.getElem?_set_self (List.getElem?_eq_some_iff.mp e0).1])
      rw [z1] at y1
      cases y1
      obtain ⟨W3, hH, _, l1, l2, sf3⟩ := sf.back sf' hM (fun _ z => z) (hρ ▸ (l.trans l').pre)
      have := q W3 l1 (.ref a) sf3 (y2.ls l2)
      rw [hH, eH] at this
      exact hQ _ this
    · exact q.elim
def spI (B : Bg) (n c : Nat) (fi : FnI) : Sp := fun vs H Q E => ∃ (F : Frm) (M0 : Addr → Prop) (σ : L2.St) (e : Env) (st : Sto) (W : Wd) (ds : List D) (p dd : Addr) (vs' : List V) (Q0 : VK), F.G = B.G ∧ F.Wx = E ∧ vs = .ref p :: vs' ∧ H = upd (upd W.H dd (.own p)) p (.ins (F.G.cA c) dd []) ∧ W.H p = none ∧ W.H dd = none ∧ dd ≠ p ∧
  SF F M0 σ e st W ∧ Reps F.G W ds vs' ∧ ds.length + 1 = fi.pos.length ∧ (∀ H', Q0 (.ref p) H' → Q .non H') ∧
  Pk F M0 σ e W (makeK F.G.T (exB F.G.T (callI F.G.T n) fi.body (some (.own (.ins c [] [])) :: startE (fi.nloc - 1) ds) st)) fun d s' W' => ∀ v, SF F M0 σ e s' W' → Rep F.G W' d v → Q0 v W'.H
theorem make_rule (S : Stat B) (hC : CallsOk B n k) {c : Nat} {ci : ClsI} (hc : B.G.T.cls c = some ci) (h : FnSt B f fi x qual ps kd dx body scope dvs fd N) : FnG B.P B.w B.K B.mg B.base (k + 1) (B.G.fA f) fd (ps.map (·.arg)) (spI B n c fi) := by
  refine fng_of h.fn h.sc (fun vs H Q E ⟨F, M0, σ, e, st, W, ds, p, dd, vs', Q0, _, _, ev, _, _, _, _, _, r, hl, _⟩ => by rw [ev, List.length_cons, ← r.length, hl, h.pos, List.length_map]) fun cdv A outer s H vs Q E hr hg ⟨F, M0, σ, e, st, W, ds, p, dd, vs', Q0, hF, hE, ev, eH, hp, hdd, hne, sf, r, hl, hQ, q⟩ => ?_
  subst hE
  subst ev
  obtain ⟨sf1, l1, _⟩ := sf.lay (o := .own p) hdd
  have hp1 : (W.lay dd (.own p)).H p = none := by show upd W.H dd _ p = none; rw [upd_ne hne.symm]; exact hp
  obtain ⟨sf2, l2, _, _⟩ := sf1.layM (o := .ins (F.G.cA c) dd []) hp1 nofun
  have kp : ∀ a o, W.H a = some o → ((W.lay dd (.own p)).layM p (.ins (F.G.cA c) dd [])).H a = some o := fun a o z => by
    show upd (upd W.H dd _) p _ a = _
    rw [upd_ne (fun w => by rw [w, hp] at z; cases z), upd_ne (fun w => by rw [w, hdd] at z; cases z)]
    exact z
  have hX := xst_of (F := ⟨F.G, W.H, fun _ => False, F.Wx, fun a => a ∈ W.ρ, fun a => a = p⟩) (f := f) (outer := outer) (H := H) S hC h.sc hF hr hg
  have ent := sf2.enterI (W := W) F.Wx (N := N) rfl hp kp ((r.le l1).le l2) (c := c) (ci := ci) upd_same (by rw [hF]; exact hc)
  refine ⟨_, bl_ok (b := fi.body) hX (by show chkB fi.body (ckOf F.G.T N scope) body = true; rw [hF]; exact h.ck), _, _, st, (W.lay dd (.own p)).layM p (.ins (F.G.cA c) dd []), eH.symm, ent, ?_⟩
  rw [h.loc]
  have hM : ∀ a, W.Mu a → a ∉ W.ρ → inI ((W.lay dd (.own p)).layM p (.ins (F.G.cA c) dd [])) p a := fun a z1 z2 => ⟨.inl (.inl z1), z2, fun w => by
    obtain ⟨o, z, _⟩ := sf.there z1
    rw [w, hp] at z
    cases z⟩
  exact out_make (W1 := (W.lay dd (.own p)).layM p (.ins (F.G.cA c) dd [])) sf hM rfl q hQ
/-- a call of a class -/
theorem clr_mk (S : Stat B) (hC : CallsOk B n k) {c : Nat} {ci : ClsI} (hc : B.G.T.cls c = some ci) (hi : ci.init = f) (h : FnSt B f fi x qual ps kd dx body scope dvs fd N) (hf : B.G.T.fn f = some fi) (M : Mk B.K (B.G.cA c) (B.G.fA f)) (h1 : 1 ≤ fi.pos.length) {F : Frm} {X : Cx} (hF : F.G = B.G) (hX : InBg B X) (hr : Room (k + 2) X.A) (hg : X.A.guards = some []) (tk : Takes X (fun c d _ H => F.Wx c d H)) :
    ClR F (callI B.G.T (n + 1)) X c (B.G.cA c) := by
  intro pins s σ σ' W M0 e st ds vs us kn es zs ws Q I sf rV rZ rD rE hlen q
  obtain ⟨e1, e2, e3, e4, e5, e6⟩ := hX
  have q : Pk F M0 σ' e W (makeC B.G.T (callI B.G.T n) c fi ds (kn.zip es) st) fun d s' W' => ∀ v, SF F M0 σ' e s' W' → Rep F.G W' d v → Q v W'.H := by
    have ez : callI B.G.T (n + 1) c ds (kn.zip es) st = makeC B.G.T (callI B.G.T n) c fi ds (kn.zip es) st := by
      show (match B.G.T.cls c with | some ci => _ | none => _) = _
      rw [hc]
      dsimp only
      rw [hi, hf]
    rw [← ez]
    exact q
  unfold makeC at q
  cases hb : bindP (fi.pos.drop 1) fi.dfl ds (kn.zip es) with
  | none => rw [hb] at q; exact q.elim
  | some full =>
  rw [hb] at q
  obtain ⟨rvs, rus, rs, rfl, g2, g3, len, bt⟩ := bind_ok (us0 := [Value.ref (s.heap.objs.size + 1)]) h hF h1 rV rD rZ rE hlen hb
  have I2 := Inv.made (C := B.G.cA c) I
  have kin : B.K.In ((s.heap.push PySem.W.emptyDict).push (PySem.W.instObj (B.G.cA c) s.heap.objs.size)) := by have := I2.kIn; rw [e3] at this; exact this
  have fr := make_rule S hC hc h
  rw [← e1, ← e2, ← e3, ← e4, ← e5] at fr
  have M' : Mk X.K (B.G.cA c) (B.G.fA f) := by rw [e3]; exact M
  have sp : spI B n c fi (V.ref (s.heap.objs.size + 1) :: (vs ++ rvs)) (upd (upd W.H s.heap.objs.size (.own (s.heap.objs.size + 1))) (s.heap.objs.size + 1) (.ins (B.G.cA c) s.heap.objs.size [])) (fun v H2 => v = .non ∧ Q (.ref (s.heap.objs.size + 1)) H2) F.Wx := by
    refine ⟨F, M0, σ', e, st, W, ds ++ rs, s.heap.objs.size + 1, s.heap.objs.size, vs ++ rvs, Q, hF, rfl, rfl, by rw [hF], I.hok.fresh (Nat.le_succ _), I.hok.fresh (Nat.le_refl _), Nat.ne_of_lt (Nat.lt_succ_self _), sf, rD.append g3, ?_, fun H' z => ⟨rfl, z⟩, by rw [hF]; rw [hF] at q; exact q⟩
    rw [List.length_singleton] at len
    omega
  have rall : Vals (V.ref (s.heap.objs.size + 1) :: (vs ++ rvs)) ([Value.ref (s.heap.objs.size + 1)] ++ us ++ rus) := .cons rfl (rV.append g2)
  refine wpAny_call (make_map (f := B.G.fA f) I.kIn M'.makes M'.init (beq_iff_eq.mp M'.fn) (codeAny_mono (fr _ X.stack _ _ ⟨[Value.ref (s.heap.objs.size + 1)] ++ us, (kn.map F.G.T.names).zip ws⟩ _ _ _ F.Wx (hr.make _ _ _) (under_make hg) (I2.env0.make _ _ _) (bt _ kin) rall sp) fun r s' hq => ?_))
  match r with
  | .error z => exact passes_call tk (fun _ _ _ _ z => z) pins σ _ _ z s' I2 hq
  | .ok (.ret _) =>
    rcases I2.after hq with ⟨_, Hn, In, rn, rfl, qn⟩
    exact ⟨rn, .ref _, Hn, In, rfl, qn⟩
  | .ok .next | .ok .brk | .ok .cont => exact hq.elim
end
end Wk

set_option Elab.async false
set_option linter.all false
set_option maxRecDepth 100000
set_option maxHeartbeats 4100000
/-! Special methods of the program's own classes. -/
namespace Wk
open PySem L2 PySem.Spec PyProof.Rows
section
variable {F : Frm} {cl : CallT} {X : Cx} {M0 : Addr → Prop} {σ σ' : L2.St} {e : Env} {st : Sto} {W : Wd} {pins : List (Addr × Obj)} {s : Shared} {a b : D} {x y : V} {v u : Value} {Q : VK} {c k : Nat}
theorem look_rep (h : Look F.G W a x) (ha : argD a = true) : Rep F.G W a x := by
  cases a <;> first | exact h | cases ha
theorem cls_at (sf : SF F M0 σ' e st W) (lb : Look F.G W b y) (hc : clsD st b = some c) : Rep F.G W b y ∧ ∃ ad dx fs, y = .ref ad ∧ W.H ad = some (.ins (F.G.cA c) dx fs) := by
  unfold clsD at hc
  split at hc
  · cases hc
    have r : Rep F.G W (.obj c _) y := lb
    obtain ⟨ad, ci, rfl, hci, sh⟩ := obj_shows r
    obtain ⟨dx, vs, e1, _⟩ := sh
    exact ⟨r, ad, dx, _, rfl, e1⟩
  · rename_i n
    split at hc
    · rename_i c' ns ds e0
      cases hc
      have r : Rep F.G W (.ref n) y := lb
      obtain ⟨ad, rfl, e2, sh⟩ := sf.at r e0
      obtain ⟨dx, vs, e1, _⟩ := sh
      exact ⟨r, ad, dx, _, rfl, e1⟩
    · cases hc
  · cases hc
/-- a special method's answer, a truth -/
theorem sp_bool {ds : List D} {vs : List V} {us : List Value} {f : Addr} {g : Bool → Bool} (I : L2.Inv X pins σ W.H s) (sf : SF F M0 σ' e st W) (hr : ClR F cl X k f) (rv : Vals vs us) (rd : Reps F.G W ds vs)
    (q : Pk F M0 σ' e W ((cl k ds [] st).bind fun r s => match r with
      | .bl z => .ok (.bl (g z)) s
      | _ => .no) (fun r s' W' => ∀ v, SF F M0 σ' e s' W' → Rep F.G W' r v → Q v W'.H)) : wpAny (model X.prog X.w) X.A (call (.ref f) us) (fun r s' => ∃ z, r = .bool z ∧ EP X pins σ Q (.bool (g z)) s') X.xe s := by
  have z := hr pins s σ σ' W M0 e st ds vs us [] [] [] [] (fun v H => ∃ z, v = .bl z ∧ Q (.bl (g z)) H) I sf rv .nil rd .nil rfl ?_
  · refine wpAny_mono z (fun r s' hq => ?_) fun _ _ z => z
    obtain ⟨v, H', I', rv', z, rfl, q'⟩ := hq
    cases rv'
    exact ⟨z, rfl, .bl (g z), H', I', rfl, q'⟩
  · show Pk F M0 σ' e W (cl k ds [] st) _
    cases hz : cl k ds [] st with
    | no => rw [hz] at q; exact q
    | ex c a s1 => rw [hz] at q; exact q
    | ok d s1 =>
      rw [hz] at q
      intro W' l v sf' r'
      cases d with
      | bl z =>
        cases r'.bl_inv
        exact ⟨z, rfl, q W' l (.bl (g z)) sf' rep_bl⟩
      | _ => exact q.elim
theorem sp_in {neg : Bool} (I : L2.Inv X pins σ W.H s) (sf : SF F M0 σ' e st W) (rx : RelV x v) (ry : RelV y u) (la : Look F.G W a x) (lb : Look F.G W b y) (hc : clsD st b = some c) (hC : Cls X.K (F.G.cA c)) (hm : Meth X.K (F.G.cA c) "__contains__" (F.G.fA k)) (hr : ClR F cl X k (F.G.fA k))
    (q : Pk F M0 σ' e W ((if argD a then cl k [b, a] [] st else .no).bind fun r s => match r with
      | .bl z => .ok (.bl (if neg then !z else z)) s
      | _ => .no) (fun r s' W' => ∀ v, SF F M0 σ' e s' W' → Rep F.G W' r v → Q v W'.H)) : wpAny (model X.prog X.w) X.A (compareOp (if neg then .NotIn else .In) v u) (EP X pins σ Q) X.xe s := by
  obtain ⟨rb, ad, dx, fs, rfl, ea⟩ := cls_at sf lb hc
  cases ry
  cases ha : argD a with
  | false => rw [ha] at q; exact q.elim
  | true =>
    rw [ha, if_pos rfl] at q
    have ra := look_rep la ha
    obtain ⟨view, whole, -⟩ := ins_get I.hok ea
    obtain ⟨od, J, -⟩ := whole.look
    obtain ⟨mm, fr⟩ := I.fr
    have z := sp_bool (g := fun z => if neg then !z else z) I sf hr (.cons (show RelV (.ref ad) (.ref ad) from rfl) (.cons rx .nil)) (.cons rb (.cons ra .nil)) q
    cases neg with
    | false =>
      refine PySem.W.in_K fr I.mod.kin J hm.at_ hm.fn (wpAny_mono z (fun r s' hz => ?_) fun _ _ z => z)
      obtain ⟨z, rfl, hq⟩ := hz
      exact wpAny_truthy_bool hq
    | true =>
      refine PySem.W.notIn_K fr I.mod.kin J hm.at_ hm.fn (wpAny_mono z (fun r s' hz => ?_) fun _ _ z => z)
      obtain ⟨z, rfl, hq⟩ := hz
      exact wpAny_truthy_bool hq
/-- truth by __bool__ -/
theorem sp_tru {Qb : Bool → Hp → Prop} (I : L2.Inv X pins σ W.H s) (sf : SF F M0 σ' e st W) (rx : RelV x v) (la : Look F.G W a x) (hc : clsD st a = some c) (hm : Meth X.K (F.G.cA c) "__bool__" (F.G.fA k)) (hr : ClR F cl X k (F.G.fA k))
    (q : Pk F M0 σ' e W ((cl k [a] [] st).bind fun r s => match r with
      | .bl b => .ok b s
      | _ => .no) (fun r s' W' => SF F M0 σ' e s' W' → Qb r W'.H)) : wpAny (model X.prog X.w) X.A (truthy v) (TP X pins σ Qb) X.xe s := by
  obtain ⟨rb, ad, dx, fs, rfl, ea⟩ := cls_at sf la hc
  cases rx
  obtain ⟨view, whole, -⟩ := ins_get I.hok ea
  obtain ⟨od, J, -⟩ := whole.look
  obtain ⟨mm, fr⟩ := I.fr
  have z := hr pins s σ σ' W M0 e st [a] [.ref ad] [.ref ad] [] [] [] [] (fun v H => ∃ z, v = .bl z ∧ Qb z H) I sf (.cons (show RelV (.ref ad) (.ref ad) from rfl) .nil) .nil (.cons rb .nil) .nil rfl ?_
  · refine PySem.W.truthy_K fr I.mod.kin J hm.at_ hm.fn (wpAny_mono z (fun r s' hq => ?_) fun _ _ z => z)
    obtain ⟨v, H', I', rv', z, rfl, q'⟩ := hq
    cases rv'
    exact ⟨H', I', q'⟩
  · show Pk F M0 σ' e W (cl k [a] [] st) _
    cases hz : cl k [a] [] st with
    | no => rw [hz] at q; exact q
    | ex c a s1 => rw [hz] at q; exact q
    | ok d s1 =>
      rw [hz] at q
      intro W' l v sf' r'
      cases d with
      | bl z =>
        cases r'.bl_inv
        exact ⟨z, rfl, q W' l sf'⟩
      | _ => exact q.elim
end
end Wk

set_option Elab.async false
set_option linter.all false
set_option maxRecDepth 100000
set_option maxHeartbeats 4100000
/-! Calls at every depth. -/
namespace Wk
open PySem L2 PySem.Spec PyProof.Rows
structure Sta (B : Bg) : Prop extends Stat B where
  inj : ∀ c ci f g, B.G.T.cls c = some ci → f ∈ ci.flds → B.G.T.names f = B.G.T.names g → f = g
  cls : ∀ c ci, B.G.T.cls c = some ci → Cls B.K (B.G.cA c) ∧ ∀ f ∈ ci.flds, NoAttr B.K (B.G.cA c) (B.G.T.names f)
  fn : ∀ k fi, B.G.T.fn k = some fi → ∃ x qual ps kd dx body scope dvs fd N, FnSt B k fi x qual ps kd dx body scope dvs fd N
  kn : ∀ f, B.G.T.kn f = true → B.mg (B.G.T.names f) = some (.ref (B.G.gA f)) ∧ PySem.W.keepIn B.K (.ref (B.G.gA f)) = true ∧
    ((∃ ci fi, B.G.T.cls f = some ci ∧ B.G.T.fn ci.init = some fi ∧ 1 ≤ fi.pos.length ∧ B.G.gA f = B.G.cA f ∧ Mk B.K (B.G.cA f) (B.G.fA ci.init)) ∨ (B.G.T.cls f = none ∧ (∃ fi, B.G.T.fn f = some fi) ∧ B.G.gA f = B.G.fA f))
  meth : ∀ c m k, B.G.T.meth c m = some k → B.G.T.cls k = none ∧ (∃ fi, B.G.T.fn k = some fi) ∧ Meth B.K (B.G.cA c) (B.G.T.names m) (B.G.fA k) ∧ Cls B.K (B.G.cA c) ∧ ∀ ci, B.G.T.cls c = some ci → B.G.T.names m ∉ ci.flds.map B.G.T.names
  prop : ∀ c m k, B.G.T.prop c m = some k → B.G.T.cls k = none ∧ (∃ fi, B.G.T.fn k = some fi ∧ fi.pos.length = 1) ∧ Cls B.K (B.G.cA c) ∧ ∃ p, PropOf B.K (B.G.cA c) (B.G.T.names m) p (B.G.fA k)
  nIn : B.G.T.names B.G.T.sIn = "__contains__"
  nBool : B.G.T.names B.G.T.sBool = "__bool__"
  nod : ∀ c, B.G.T.meth c B.G.T.sAnd = none ∧ B.G.T.meth c B.G.T.sOr = none ∧ B.G.T.meth c B.G.T.sSub = none ∧ B.G.T.meth c B.G.T.sEq = none ∧ B.G.T.meth c B.G.T.sLen = none ∧ B.G.T.meth c B.G.T.sGet = none
theorem dun_ok {B : Bg} (S : Sta B) {F : Frm} {cl : CallT} {X : Cx} (hF : F.G = B.G) (hm : ∀ c m k, F.G.T.meth c m = some k → Cls X.K (F.G.cA c) ∧ Meth X.K (F.G.cA c) (F.G.T.names m) (F.G.fA k) ∧ ClR F cl X k (F.G.fA k) ∧ ∀ ci, F.G.T.cls c = some ci → F.G.T.names m ∉ ci.flds.map F.G.T.names) : DunOk F cl X where
  bin := fun pins s σ σ' W M0 e st op a b x y v u Q I sf rx ry la lb hc q => by
    obtain ⟨c, hc⟩ := Option.isSome_iff_exists.mp hc
    obtain ⟨n1, n2, n3, _⟩ := S.nod c
    rw [← hF] at n1 n2 n3
    unfold binV at q
    rw [hc] at q
    dsimp only at q
    cases op <;> first | (rw [n1] at q; exact q.elim) | (rw [n2] at q; exact q.elim) | (rw [n3] at q; exact q.elim) | exact q.elim
  cmp := fun pins s σ σ' W M0 e st op a b x y v u Q I sf rx ry la lb hc q => by
    rcases hc with ⟨h1, hc⟩ | ⟨h1, hc⟩
    · obtain ⟨c, hc⟩ := Option.isSome_iff_exists.mp hc
      obtain ⟨_, _, _, n4, _⟩ := S.nod c
      rw [← hF] at n4
      rcases h1 with rfl | rfl <;> (simp only [cmpV, hc, n4] at q; exact q.elim)
    · obtain ⟨c, hc⟩ := Option.isSome_iff_exists.mp hc
      have nm := S.nIn
      rw [← hF] at nm
      cases hk : F.G.T.meth c F.G.T.sIn with
      | none => rcases h1 with rfl | rfl <;> (simp only [cmpV, hc, hk] at q; exact q.elim)
      | some k =>
        obtain ⟨z1, z2, z3, _⟩ := hm c _ k hk
        rw [nm] at z2
        rcases h1 with rfl | rfl
        · simp only [cmpV, hc, hk] at q
          exact sp_in (neg := false) I sf rx ry la lb hc z1 z2 z3 q
        · simp only [cmpV, hc, hk] at q
          exact sp_in (neg := true) I sf rx ry la lb hc z1 z2 z3 q
  tru := fun pins s σ σ' W M0 e st a x v Q I sf rx la hc q => by
    obtain ⟨c, hc⟩ := Option.isSome_iff_exists.mp hc
    obtain ⟨_, _, _, _, n7, _⟩ := S.nod c
    have nm := S.nBool
    rw [← hF] at n7 nm
    cases hk : F.G.T.meth c F.G.T.sBool with
    | none => simp only [truthV, hc, hk, n7] at q; exact q.elim
    | some k =>
      obtain ⟨z1, z2, z3, _⟩ := hm c _ k hk
      rw [nm] at z2
      simp only [truthV, hc, hk] at q
      exact sp_tru I sf rx la hc z2 z3 q
  idx := fun value slice pins s σ σ' W M0 e st a b x y v u Q I sf rx ry la lb hc q hs => by
    obtain ⟨c, hc⟩ := Option.isSome_iff_exists.mp hc
    obtain ⟨_, _, _, _, _, n8⟩ := S.nod c
    rw [← hF] at n8
    unfold clsD at hc
    split at hc
    · have key : ∀ (c2 : Nat) (ds2 : List D), idxD F.G.T (.obj c2 ds2) b = none := fun _ _ => by cases b <;> rfl
      simp only [idxV, key] at q
      exact q.elim
    · split at hc
      · rename_i e0
        cases hc
        simp only [idxV, e0, n8] at q
        exact q.elim
      · cases hc
    · cases hc
theorem calls_ok {B : Bg} (S : Sta B) : ∀ n, CallsOk B n (2 * n)
  | 0 => fun F X hF hX hr hg tk =>
    have mt : ∀ c m k, F.G.T.meth c m = some k → Cls X.K (F.G.cA c) ∧ Meth X.K (F.G.cA c) (F.G.T.names m) (F.G.fA k) ∧ ClR F (callI B.G.T 0) X k (F.G.fA k) ∧ ∀ ci, F.G.T.cls c = some ci → F.G.T.names m ∉ ci.flds.map F.G.T.names := fun c m k h => by
      rw [hF] at h ⊢
      obtain ⟨h1, h2, h3, h4, h5⟩ := S.meth c m k h
      exact ⟨by rw [hX.K]; exact h4, by rw [hX.K]; exact h3, fun pins s σ σ' W M0 e st ds vs us kn es zs ws Q I sf rV rZ rD rE hlen q => q.elim, h5⟩
    {
    glo := fun f hf => by
      rw [hF] at hf ⊢
      obtain ⟨h1, h2, _⟩ := S.kn f hf
      exact ⟨by rw [hX.mg]; exact h1, by rw [hX.K]; exact h2, fun pins s σ σ' W M0 e st ds vs us kn es zs ws Q I sf rV rZ rD rE hlen q => q.elim⟩
    cls := fun c ci h => by rw [hF] at h ⊢; rw [hX.K]; exact S.cls c ci h
    meth := mt
    prop := fun c m k h => by
      rw [hF] at h ⊢
      obtain ⟨h1, _, h3, _⟩ := S.prop c m k h
      exact ⟨by rw [hX.K]; exact h3, fun pins s σ σ' W M0 e st st' d d' a ad fs Q b I sf ea r ez q => by cases ez⟩
    dun := dun_ok S hF mt
    inj := fun c ci f g h1 h2 h3 => by rw [hF] at h1 h3; exact S.inj c ci f g h1 h2 h3 }
  | n + 1 => fun F X hF hX hr hg tk =>
    have mt : ∀ c m k, F.G.T.meth c m = some k → Cls X.K (F.G.cA c) ∧ Meth X.K (F.G.cA c) (F.G.T.names m) (F.G.fA k) ∧ ClR F (callI B.G.T (n + 1)) X k (F.G.fA k) ∧ ∀ ci, F.G.T.cls c = some ci → F.G.T.names m ∉ ci.flds.map F.G.T.names := fun c m k h => by
      rw [hF] at h ⊢
      obtain ⟨h1, ⟨fi, h2⟩, h3, h4, h5⟩ := S.meth c m k h
      obtain ⟨x, qual, ps, kd, dx, body, scope, dvs, fd, N, st⟩ := S.fn k fi h2
      exact ⟨by rw [hX.K]; exact h4, by rw [hX.K]; exact h3, clr_fn S.toStat (calls_ok S n) st h2 h1 hF hX (hr.mono (by omega)) hg tk, h5⟩
    {
    glo := fun f hf => by
      rw [hF] at hf ⊢
      obtain ⟨h1, h2, h3⟩ := S.kn f hf
      refine ⟨by rw [hX.mg]; exact h1, by rw [hX.K]; exact h2, ?_⟩
      rcases h3 with ⟨ci, fi, z1, z2, z3, z4, z5⟩ | ⟨z1, ⟨fi, z2⟩, z4⟩
      · obtain ⟨x, qual, ps, kd, dx, body, scope, dvs, fd, N, st⟩ := S.fn ci.init fi z2
        rw [z4]
        exact clr_mk S.toStat (calls_ok S n) z1 rfl st z2 z5 z3 hF hX (hr.mono (by omega)) hg tk
      · obtain ⟨x, qual, ps, kd, dx, body, scope, dvs, fd, N, st⟩ := S.fn f fi z2
        rw [z4]
        exact clr_fn S.toStat (calls_ok S n) st z2 z1 hF hX (hr.mono (by omega)) hg tk
    cls := fun c ci h => by rw [hF] at h ⊢; rw [hX.K]; exact S.cls c ci h
    meth := mt
    prop := fun c m k h => by
      rw [hF] at h
      obtain ⟨h1, ⟨fi, h2, h2'⟩, h3, p, h4⟩ := S.prop c m k h
      obtain ⟨x, qual, ps, kd, dx, body, scope, dvs, fd, N, st⟩ := S.fn k fi h2
      have hF' := hF
      rw [hF]
      refine ⟨by rw [hX.K]; exact h3, fun pins s σ σ' W M0 e st0 st' d d' a ad fs Q b I sf ea r ez q => ?_⟩
      exact clr_prop S.toStat (calls_ok S n) st h2 h1 h2' h3 h4 hF' hX (hr.mono (by omega)) hg pins s σ σ' W M0 e st0 st' d d' a ad fs Q b I sf ea (by rw [hF']; exact r) ez fun W' l v sf' r' => q W' l v sf' (by rw [hF'] at r'; exact r')
    dun := dun_ok S hF mt
    inj := fun c ci f g h1 h2 h3 => by rw [hF] at h1 h3; exact S.inj c ci f g h1 h2 h3 }
end Wk

set_option Elab.async false
set_option linter.all false
set_option maxRecDepth 100000
set_option maxHeartbeats 4100000
/-! The head: what stands behind the top, by a table. -/
namespace Wk
open PySem L2 PySem.Spec PyProof.Rows
/-! ### values of the written part -/
mutual
def repU (K : PySem.W.Frag) (kA : Nat → Addr) : D → Value → Bool
  | .non, .none => true
  | .bl b, .bool c => b == c
  | .int i, .int j _ => decide (i = j)
  | .str x, .str y _ => decide (x = y)
  | .kt ds, .ref a => match K.lookup a with
    | some ⟨.type c, _, .seq its _, _⟩ => decide (c = "tuple") && (decide (its.size ≤ sizeLine) && repUs K kA ds its.toList)
    | _ => false
  | .kd x, .ref a => decide (a = kA x)
  | _, _ => false
def repUs (K : PySem.W.Frag) (kA : Nat → Addr) : List D → List Value → Bool
  | [], [] => true
  | d :: ds, u :: us => repU K kA d u && repUs K kA ds us
  | _, _ => false
end
mutual
theorem repU_ok {G : GS} : ∀ {d : D} {u : Value}, repU G.K G.kA d u = true → ∃ v, RelV v u ∧ ∀ W, Rep G W d v
  | .non, u, h => by cases u <;> simp only [repU, Bool.false_eq_true] at h; exact ⟨.non, rfl, fun W => rep_non⟩
  | .bl b, u, h => by
    cases u <;> simp only [repU, Bool.false_eq_true, beq_iff_eq] at h
    subst h
    exact ⟨.bl b, rfl, fun W => rep_bl⟩
  | .int i, u, h => by
    cases u <;> simp only [repU, Bool.false_eq_true, decide_eq_true_eq] at h
    subst h
    exact ⟨.int i, ⟨_, rfl⟩, fun W => rep_int⟩
  | .str x, u, h => by
    cases u <;> simp only [repU, Bool.false_eq_true, decide_eq_true_eq] at h
    subst h
    exact ⟨.str x, ⟨_, rfl⟩, fun W => rep_str⟩
  | .kt ds, u, h => by
    cases u <;> simp only [repU, Bool.false_eq_true] at h
    rename_i a
    split at h
    · rename_i c od its n osl e
      simp only [Bool.and_eq_true, decide_eq_true_eq] at h
      obtain ⟨h1, h2, h3⟩ := h
      subst h1
      obtain ⟨vs, r1, r2⟩ := repUs_ok (G := G) h3
      refine ⟨.ref a, rfl, fun W => ?_⟩
      simp only [Rep]
      exact ⟨a, vs, rfl, r2 W, .inr ⟨_, its, n, e, rfl, rfl, h2, r1⟩⟩
    · cases h
  | .kd x, u, h => by
    cases u <;> simp only [repU, Bool.false_eq_true, decide_eq_true_eq] at h
    subst h
    exact ⟨.ref (G.kA x), rfl, fun W => by simp only [Rep]⟩
  | .tup _, u, h => by cases u <;> simp [repU] at h
  | .lst _, u, h => by cases u <;> simp [repU] at h
  | .kl _, u, h => by cases u <;> simp [repU] at h
  | .dK _ _, u, h => by cases u <;> simp [repU] at h
  | .dT _ _, u, h => by cases u <;> simp [repU] at h
  | .obj _ _, u, h => by cases u <;> simp [repU] at h
  | .ref _, u, h => by cases u <;> simp [repU] at h
  | .g _, u, h => by cases u <;> simp [repU] at h
  | .ty _, u, h => by cases u <;> simp [repU] at h
theorem repUs_ok {G : GS} : ∀ {ds : List D} {us : List Value}, repUs G.K G.kA ds us = true → ∃ vs, Vals vs us ∧ ∀ W, Reps G W ds vs
  | [], us, h => by cases us <;> simp only [repUs, Bool.false_eq_true] at h; exact ⟨[], .nil, fun W => .nil⟩
  | d :: ds, us, h => by
    cases us <;> simp only [repUs, Bool.false_eq_true, Bool.and_eq_true] at h
    obtain ⟨v, r1, r2⟩ := repU_ok (G := G) h.1
    obtain ⟨vs, q1, q2⟩ := repUs_ok (G := G) h.2
    exact ⟨v :: vs, .cons r1 q1, fun W => .cons (r2 W) (q2 W)⟩
end
/-- defaults -/
def dvOf (at_ : Str × Option Str) (i : Nat) : D → He.Dv
  | .bl b => .bl b
  | .int i => .int i
  | .str x => .str x
  | .kt _ => .adr (He.dflAt at_ i)
  | _ => .non
def dvsOf (at_ : Str × Option Str) : Nat → List D → List He.Dv
  | _, [] => []
  | i, d :: ds => dvOf at_ i d :: dvsOf at_ (i + 1) ds
def repV (K : PySem.W.Frag) (kA : Nat → Addr) : D → V → Bool
  | .non, .non => true
  | .bl b, .bl c => b == c
  | .int i, .int j => decide (i = j)
  | .str x, .str y => decide (x = y)
  | .kt ds, .ref a => match K.lookup a with
    | some ⟨.type c, _, .seq its _, _⟩ => decide (c = "tuple") && (decide (its.size ≤ sizeLine) && repUs K kA ds its.toList)
    | _ => false
  | _, _ => false
def repVs (K : PySem.W.Frag) (kA : Nat → Addr) : List D → List V → Bool
  | [], [] => true
  | d :: ds, v :: vs => repV K kA d v && repVs K kA ds vs
  | _, _ => false
theorem repV_ok {G : GS} {d : D} {v : V} (h : repV G.K G.kA d v = true) (W : Wd) : Rep G W d v := by
  cases d with
  | non => cases v <;> simp only [repV, Bool.false_eq_true] at h; exact rep_non
  | bl b => cases v <;> simp only [repV, Bool.false_eq_true, beq_iff_eq] at h; subst h; exact rep_bl
  | int b => cases v <;> simp only [repV, Bool.false_eq_true, decide_eq_true_eq] at h; subst h; exact rep_int
  | str b => cases v <;> simp only [repV, Bool.false_eq_true, decide_eq_true_eq] at h; subst h; exact rep_str
  | kt ds =>
    cases v <;> simp only [repV, Bool.false_eq_true] at h
    rename_i a
    split at h
    · rename_i c od its n osl e
      simp only [Bool.and_eq_true, decide_eq_true_eq] at h
      obtain ⟨h1, h2, h3⟩ := h
      subst h1
      obtain ⟨vs, r1, r2⟩ := repUs_ok (G := G) h3
      simp only [Rep]
      exact ⟨a, vs, rfl, r2 W, .inr ⟨_, its, n, e, rfl, rfl, h2, r1⟩⟩
    · cases h
  | _ => cases v <;> simp [repV] at h
theorem repVs_ok {G : GS} : ∀ {ds : List D} {vs : List V}, repVs G.K G.kA ds vs = true → ∀ W, Reps G W ds vs
  | [], vs, h, W => by cases vs <;> simp only [repVs, Bool.false_eq_true] at h; exact .nil
  | d :: ds, vs, h, W => by
    cases vs <;> simp only [repVs, Bool.false_eq_true, Bool.and_eq_true] at h
    exact .cons (repV_ok h.1 W) (repVs_ok h.2 W)
/-! ### the table -/
/-- a def: its key, where it stands, its name and qualified name, what the interpreter knows of it, its text, its names -/
structure FnT where
  id : Nat
  at_ : Str × Option Str
  name : Str
  qual : Str
  fi : FnI
  st : Stmt
  N : List Str
  /-- the getter of a property (at_ leads to the property) -/
  prop : Bool := false
/-- a property's getter -/
def gtA (K : PySem.W.Frag) (p : Addr) : Addr := match PySem.W.recIn K p "property" with
  | some (.ref g :: _) => g
  | _ => 0
def FnT.ad (K : PySem.W.Frag) (f : FnT) : Addr := if f.prop then gtA K (He.fAd K f.at_) else He.fAd K f.at_
/-- a def's text, by its address -/
def fnWa (K : PySem.W.Frag) (a : Addr) : He.FnW := match K.lookup a with
  | some o => (match o.data with
    | .func d => some (d.name, d.qualname, d.params, d.body, d.scope, d.globals, d.closure, d.builtins)
    | _ => none)
  | none => none
structure TD where
  names : List Str
  globs : List (Nat × D)
  kds : List (Nat × List (Str × D))
  fns : List FnT
  clss : List (Nat × ClsI)
  meths : List (Nat × Nat × Nat)
  props : List (Nat × Nat × Nat) := []
  kn : List Nat
  /-- the ids of the special methods' names -/
  sp : List Nat
def TD.nm (t : TD) (i : Nat) : Str := t.names.getD i Str.empty
def TD.fnT (t : TD) (k : Nat) : Option FnT := t.fns.find? fun f => f.id == k
def TD.it (t : TD) : IT where
  glob := fun x => t.globs.lookup x
  kds := fun x => (t.kds.lookup x).getD []
  fn := fun k => (t.fnT k).map (·.fi)
  cls := fun c => t.clss.lookup c
  meth := fun c m => (t.meths.find? fun q => q.1 == c && q.2.1 == m).map (·.2.2)
  prop := fun c m => (t.props.find? fun q => q.1 == c && q.2.1 == m).map (·.2.2)
  exc := fun _ => none
  kn := fun f => t.kn.contains f
  names := t.nm
  sAnd := t.sp.getD 0 0
  sOr := t.sp.getD 1 0
  sSub := t.sp.getD 2 0
  sEq := t.sp.getD 3 0
  sIn := t.sp.getD 4 0
  sBool := t.sp.getD 5 0
  sLen := t.sp.getD 6 0
  sGet := t.sp.getD 7 0
  wf := 0
def TD.gs (t : TD) (K : PySem.W.Frag) : GS where
  K := K
  T := t.it
  cA := fun c => He.ga K (t.nm c)
  fA := fun k => match t.fnT k with
    | some f => f.ad K
    | none => 0
  kA := fun x => He.ga K (t.nm x)
  gA := fun x => He.ga K (t.nm x)
/-- what it asks the heap -/
def FnT.asks (K : PySem.W.Frag) (a : Addr) (qual : Str) (vs : List V) : Bool := PySem.W.keepIn K (.ref a) && (match K.lookup a with
  | some o => (match o.data with
    | .func d => PySem.W.codeIn K d.code qual && He.dflB K d.defaults vs && He.kwdB K d.kwdefaults []
    | _ => false)
  | none => false)
theorem FnT.asks_ok {K : PySem.W.Frag} {a : Addr} {x qual : Str} {pr : Arguments} {bd : List Stmt} {sc : Scope} {vs : List V} (e : fnWa K a = some (x, qual, pr, .stmts bd, sc, mainGlobals, [], builtinsNs)) (h : FnT.asks K a qual vs = true) : ∃ fd, FunD K x qual pr bd sc vs [] a fd := by
  unfold FnT.asks at h
  rw [Bool.and_eq_true] at h
  obtain ⟨kp, h⟩ := h
  unfold fnWa at e
  cases lk : K.lookup a with
  | none => rw [lk] at h; cases h
  | some o =>
    rw [lk] at h e
    dsimp only at h e
    obtain ⟨oc, od, dt, osl⟩ := o
    dsimp only at h e
    cases dt with
    | func fd =>
      dsimp only at h e
      rw [Bool.and_eq_true, Bool.and_eq_true] at h
      obtain ⟨⟨h1, h2⟩, h3⟩ := h
      obtain ⟨f1, f2, f3, f4, f5, f6, f7, f8, f9, f10, f11, f12, f13, f14, f15⟩ := fd
      simp only [Option.some.injEq, Prod.mk.injEq] at e
      obtain ⟨rfl, rfl, rfl, rfl, rfl, rfl, rfl, rfl⟩ := e
      exact ⟨_, ⟨oc, od, f8, f9, f10, f11, f12, f13, f14, osl, rfl, lk, h1, He.dflB_ok h2, He.kwdB_ok h3⟩, kp⟩
    | _ => cases h
def FnT.d (f : FnT) : He.DefD := ⟨f.at_, f.name, f.qual, defArgs f.st, defBody f.st, defScope f.st, dvsOf f.at_ 0 f.fi.dfl, []⟩
/-- what does not ask the heap -/
def plainA (a : Arguments) : Bool := a.posonlyargs.isEmpty && a.vararg.isNone && a.kwonlyargs.isEmpty && a.kwarg.isNone
def scB (N ps : List Str) (sc : Scope) : Bool := (match sc.kind with | .function => true | _ => false) && !sc.isCoroutine && !sc.isGenerator && decide N.Nodup && decide (N.take ps.length = ps) &&
  ps.all (fun x => match sc.names.lookup x with | some .local => true | some .cell => true | _ => false) && sc.names.all fun y => match y.2 with | .free => false | _ => true
def FnT.ok (t : TD) (f : FnT) : Bool := plainA (defArgs f.st) && decide ((defArgs f.st).args.map (·.arg) = f.fi.pos.map t.nm) && scB f.N ((defArgs f.st).args.map (·.arg)) (defScope f.st) && decide (f.N.length = f.fi.nloc) && decide (f.fi.dfl.length ≤ f.fi.pos.length) &&
  chkB f.fi.body (ckOf t.it f.N (defScope f.st)) (defBody f.st)
def TD.ok (t : TD) : Bool := t.fns.all (fun f => f.ok t) && t.clss.all (fun c => c.2.flds.all fun f => decide (f < t.names.length)) && decide t.names.Nodup && decide (Str.empty ∉ t.names) && t.meths.all (fun q => (decide (q.2.1 = t.sp.getD 4 0) || decide (q.2.1 = t.sp.getD 5 0) || !t.sp.contains q.2.1) && (t.clss.lookup q.2.2).isNone && (t.fnT q.2.2).isSome &&
    (match t.clss.lookup q.1 with | some ci => decide (t.nm q.2.1 ∉ ci.flds.map t.nm) | none => true)) && decide (t.sp.length = 8) && t.props.all (fun q => (t.clss.lookup q.2.2).isNone && (match t.fnT q.2.2 with | some f => decide (f.fi.pos.length = 1) | none => false)) && decide t.sp.Nodup && decide (t.nm (t.sp.getD 4 0) = "__contains__") && decide (t.nm (t.sp.getD 5 0) = "__bool__")
/-- a class's property -/
def propB (K : PySem.W.Frag) (C : Addr) (x : Str) (g : Addr) : Bool := He.eqO (PySem.W.findIn K (.ref C) x) (some (some (.ref (He.ma K C x)))) && He.eqO (PySem.W.specialIn K (.ref (He.ma K C x)) "__get__") (some (some (.builtin "property.__get__"))) && decide (PySem.W.takesIn K (.ref (He.ma K C x)) = some true) &&
  (match PySem.W.recIn K (He.ma K C x) "property" with
    | some (v :: _) => decide (v = .ref g)
    | _ => false)
theorem propB_ok {K : PySem.W.Frag} {C : Addr} {x : Str} {g : Addr} (h : propB K C x g = true) : PropOf K C x (He.ma K C x) g := by
  unfold propB at h
  simp only [Bool.and_eq_true, decide_eq_true_eq] at h
  obtain ⟨⟨⟨h1, h2⟩, h3⟩, h4⟩ := h
  refine ⟨He.eqO_ok h1, He.eqO_ok h2, h3, ?_⟩
  split at h4
  · rename_i v rest e
    exact ⟨rest, by rw [e, of_decide_eq_true h4]⟩
  · cases h4
/-- what asks it -/
def bis : List Bi := [.len, .abs, .int, .str, .bool, .min, .max, .sum, .any, .all, .sorted, .list, .tuple, .divmod, .range, .enum, .repr, .dict]
def TD.on (t : TD) (K : PySem.W.Frag) : Bool :=
  t.globs.all (fun q => match PySem.W.nsIn K mainGlobals (t.nm q.1) with
    | some (some u) => repU K (t.gs K).kA q.2 u
    | _ => false) &&
  t.kds.all (fun q => match K.lookup (He.ga K (t.nm q.1)) with
    | some ⟨_, _, .dict es _, _⟩ => decide (es.toList.length = q.2.length) && ((es.toList.zip q.2).all fun z => (match z.1.key with | .str x _ => decide (x = z.2.1) | _ => false) && repU K (t.gs K).kA z.2.2 z.1.val)
    | _ => false) &&
  bis.all (fun f => (He.Fa.free (biN f)).ok K) && (He.Fa.free "isinstance").ok K &&
  t.fns.all (fun f => FnT.asks K (f.ad K) f.qual (f.d.dvs K) && repVs K (t.gs K).kA f.fi.dfl (f.d.dvs K)) &&
  t.clss.all (fun c => (He.Fa.cls (t.nm c.1)).ok K && (He.Fa.glo (t.nm c.1)).ok K && c.2.flds.all (fun f => (He.Fa.noat (t.nm c.1) (t.nm f)).ok K) &&
    He.eqO (PySem.W.findIn K (.ref (He.ga K (t.nm c.1))) "__class__") (some (some (.builtin "object.__class__"))) && decide (PySem.W.mroIn K (He.ga K (t.nm c.1)) (.type "object") = some true) &&
    t.clss.all (fun d => decide (PySem.W.kitOne K (.ref (He.ga K (t.nm c.1))) (.ref (He.ga K (t.nm d.1))) = some (decide (c.1 = d.1)))) &&
    tyNames.all (fun n => decide (PySem.W.kitOne K (.type n) (.ref (He.ga K (t.nm c.1))) = some false) && decide (PySem.W.kitOne K (.ref (He.ga K (t.nm c.1))) (.type n) = some false))) &&
  He.eqO (PySem.W.specialIn K (.builtin "object.__class__") "__get__") (some (some (.builtin "getset_descriptor.__get__"))) && decide (PySem.W.takesIn K (.builtin "object.__class__") = some true) &&
  t.meths.all (fun q => (He.Fa.meth (t.nm q.1) (t.nm q.2.1)).ok K && (He.Fa.cls (t.nm q.1)).ok K && decide ((t.gs K).fA q.2.2 = He.ma K (He.ga K (t.nm q.1)) (t.nm q.2.1))) &&
  t.kn.all (fun f => (He.Fa.glo (t.nm f)).ok K && (He.Fa.keep (t.nm f)).ok K && (match t.clss.lookup f with
    | some ci => (match t.fnT ci.init with
      | some g => decide (1 ≤ g.fi.pos.length) && (He.Fa.mkr (t.nm f)).ok K && decide ((t.gs K).fA ci.init = He.ma K (He.ga K (t.nm f)) "__init__")
      | none => false)
    | none => (t.fnT f).isSome && decide ((t.gs K).fA f = He.ga K (t.nm f)))) &&
  t.props.all (fun q => (He.Fa.cls (t.nm q.1)).ok K && propB K (He.ga K (t.nm q.1)) (t.nm q.2.1) ((t.gs K).fA q.2.2))
def TD.tabs (t : TD) : List He.Tab := t.kds.map fun q => (fun K => He.ga K (t.nm q.1), q.2.map (·.1))
/-! ### the hook -/
abbrev AlX : Type := (Bool × List He.FnW) × List (Option (List (Option (Str × Int))))
def TD.obs (t : TD) (K : PySem.W.Frag) : AlX := ((t.on K, t.fns.map fun f => fnWa K (f.ad K)), t.tabs.map fun q => He.dicW K (q.1 K))
def TD.val (t : TD) (w : World) : AlX := ((true, t.fns.map fun f => f.d.val), t.tabs.map fun q => some (He.keysIn w.params q.2))
/-- what the objects of the last round name, and is not there yet -/
def moreA (g : Addr → Option Obj) (have_ last : List Addr) : List Addr := ((last.flatMap fun a => match g a with
  | some o => He.refsD o
  | none => []).eraseDups).filter fun a => !have_.contains a
def roundA (g : Addr → Option Obj) : Nat → List Addr → List Addr → List Addr
  | 0, all, _ => all
  | n + 1, all, last => roundA g n (all ++ moreA g all last) (moreA g all last)
/-- the objects of the table's own names -/
def TD.named (t : TD) (g : Addr → Option Obj) : List Addr := match g mainGlobals with
  | some o => (match o.data with
    | .dict es _ => es.toList.flatMap fun e => match e.key with
      | .str x _ => (match e.val with
        | .ref a => if t.names.contains x then [a] else []
        | _ => [])
      | _ => []
    | _ => [])
  | none => []
def TD.reach (t : TD) (g : Addr → Option Obj) (n : Nat) : List Addr := mainGlobals :: roundA g n (t.named g) (t.named g)
def TD.obsG (t : TD) (n : Nat) (g : Addr → Option Obj) : AlX := t.obs (He.frG g (t.reach g n))
def TD.hook (t : TD) (n : Nat) : PySem.W.Hook where
  α := AlX
  obs := fun s => t.obsG n s.heap.get?
  val := fun w => t.val w
  says := fun w h => ∃ K : PySem.W.Frag, K.In h ∧ t.obs K = t.val w
  of := fun _ _ e => ⟨_, He.frG_in, e⟩
  keeps := fun _ _ _ here k => here.imp fun _ z => ⟨z.1.keeps k, z.2⟩
theorem TD.obs_eq {t : TD} {n : Nat} {g : Addr → Option Obj} {s : Shared} (h : ∀ a, g a = s.heap.get? a) : t.obsG n g = (t.hook n).obs s := by
  have e : g = s.heap.get? := funext h
  rw [e] <;> rfl
end Wk

set_option Elab.async false
set_option linter.all false
set_option maxRecDepth 100000
set_option maxHeartbeats 4100000
/-! The head's facts from the table. -/
namespace Wk
open PySem L2 PySem.Spec PyProof.Rows
theorem plainA_ok {a : Arguments} (h : plainA a = true) : a = ⟨[], a.args, none, [], a.kw_defaults, none, a.defaults⟩ := by
  obtain ⟨a1, a2, a3, a4, a5, a6, a7⟩ := a
  unfold plainA at h
  simp only [Bool.and_eq_true, List.isEmpty_iff, Option.isNone_iff_eq_none] at h
  obtain ⟨⟨⟨h1, h2⟩, h3⟩, h4⟩ := h
  subst h1; subst h2; subst h3; subst h4
  rfl
theorem scB_ok {N ps : List Str} {sc : Scope} (h : scB N ps sc = true) : FnScope N ps sc := by
  unfold scB at h
  simp only [Bool.and_eq_true, decide_eq_true_eq, List.all_eq_true] at h
  obtain ⟨⟨⟨⟨⟨⟨h1, h2⟩, h3⟩, h4⟩, h5⟩, h6⟩, h7⟩ := h
  refine ⟨?_, by simpa using h2, by simpa using h3, h4, h5, fun x hx => ?_, fun y hy e => ?_⟩
  · split at h1
    · assumption
    · cases h1
  · have := h6 x hx
    split at this
    · exact .inl ‹_›
    · exact .inr ‹_›
    · cases this
  · have := h7 y hy
    rw [e] at this
    cases this
theorem fnT_mem {t : TD} {k : Nat} {f : FnT} (h : t.fnT k = some f) : f ∈ t.fns ∧ f.id = k := by
  unfold TD.fnT at h
  exact ⟨List.mem_of_find?_eq_some h, by simpa using List.find?_some h⟩
theorem lookup_mem {α : Type} : ∀ {l : List (Nat × α)} {k : Nat} {v : α}, l.lookup k = some v → (k, v) ∈ l
  | [], _, _, h => by cases h
  | (a, b) :: l, k, v, h => by
    rw [List.lookup_cons] at h
    split at h
    · rename_i e
      cases h
      rw [beq_iff_eq.mp e]
      exact List.mem_cons_self
    · exact List.mem_cons_of_mem _ (lookup_mem h)
section
variable {t : TD} {K : PySem.W.Frag} {w : World}
theorem obs_on (h : t.obs K = t.val w) : t.on K = true := congrArg (fun z : AlX => z.1.1) h
theorem obs_fn (h : t.obs K = t.val w) {f : FnT} (hf : f ∈ t.fns) : fnWa K (f.ad K) = f.d.val := by
  have e : t.fns.map (fun f => fnWa K (f.ad K)) = t.fns.map fun f => f.d.val := congrArg (fun z : AlX => z.1.2) h
  obtain ⟨i, hi⟩ := List.getElem?_of_mem hf
  have e2 : (t.fns.map fun f => fnWa K (f.ad K))[i]? = (t.fns.map fun f => f.d.val)[i]? := by rw [e]
  rw [List.getElem?_map, List.getElem?_map, hi] at e2
  exact Option.some.inj e2
theorem obs_tab (h : t.obs K = t.val w) {q : Nat × List (Str × D)} (hq : q ∈ t.kds) : ∃ es n, KDict K w (He.ga K (t.nm q.1)) es n := by
  have e : t.tabs.map (fun q => He.dicW K (q.1 K)) = t.tabs.map fun q => some (He.keysIn w.params q.2) := congrArg (fun z : AlX => z.2) h
  obtain ⟨i, hi⟩ := List.getElem?_of_mem hq
  have hi' : t.tabs[i]? = some ((fun K => He.ga K (t.nm q.1)), q.2.map (·.1)) := by unfold TD.tabs; rw [List.getElem?_map, hi]; rfl
  have e2 : (t.tabs.map fun q => He.dicW K (q.1 K))[i]? = (t.tabs.map fun q => some (He.keysIn w.params q.2))[i]? := by rw [e]
  rw [List.getElem?_map, List.getElem?_map, hi'] at e2
  exact He.dicW_ok (Option.some.inj e2)
/-- a dict's names -/
theorem ns_find {K : PySem.W.Frag} {a : Addr} {es : Array DictEntry} {n : Nat} {oc : Value} {od : Option Addr} {sl : Array (Option Value)} {kA : Nat → Addr} {kvs : List (Str × D)} (lk : K.lookup a = some ⟨oc, od, .dict es n, sl⟩) (hl : es.toList.length = kvs.length)
    (h : (es.toList.zip kvs).all (fun z => (match z.1.key with | .str x _ => decide (x = z.2.1) | _ => false) && repU K kA z.2.2 z.1.val) = true) (z : Str) : match kvs.lookup z with
    | some d => ∃ u, PySem.W.nsIn K a z = some (some u) ∧ repU K kA d u = true
    | none => PySem.W.nsIn K a z = some none := by
  have go : ∀ (l : List DictEntry) (kvs : List (Str × D)), l.length = kvs.length → (l.zip kvs).all (fun z => (match z.1.key with | .str x _ => decide (x = z.2.1) | _ => false) && repU K kA z.2.2 z.1.val) = true →
      (match kvs.lookup z with
        | some d => ∃ e, l.find? (·.key.isStr z) = some e ∧ repU K kA d e.val = true
        | none => l.find? (·.key.isStr z) = none) ∧ l.any (·.refKey) = false := by
    intro l
    induction l with
    | nil => intro kvs hl _; cases kvs with | nil => exact ⟨rfl, rfl⟩ | cons _ _ => cases hl
    | cons e l ih =>
      intro kvs hl ha
      cases kvs with
      | nil => cases hl
      | cons q kvs =>
        rw [List.zip_cons_cons, List.all_cons, Bool.and_eq_true, Bool.and_eq_true] at ha
        obtain ⟨⟨h1, h2⟩, h3⟩ := ha
        obtain ⟨i1, i2⟩ := ih kvs (Nat.succ.inj hl) h3
        obtain ⟨k, d⟩ := q
        dsimp only at h1 h2
        cases hk : e.key with
        | str x tk =>
          rw [hk] at h1
          have hx : x = k := of_decide_eq_true h1
          subst hx
          have hs : e.key.isStr z = decide (x = z) := by
            rw [hk]
            first | rfl | (simp [PySem.Value.isStr]; done) | (unfold PySem.Value.isStr; rfl)
          have hr : e.refKey = false := by
            unfold DictEntry.refKey
            rw [hk]
          refine ⟨?_, by rw [List.any_cons, hr, i2]; rfl⟩
          rw [List.lookup_cons]
          by_cases hz : z = x
          · subst hz
            rw [beq_self_eq_true]
            exact ⟨e, by rw [List.find?_cons, hs, decide_eq_true rfl], h2⟩
          · have hb : (z == x) = false := beq_eq_false_iff_ne.mpr hz
            rw [hb]
            have hs' : e.key.isStr z = false := by rw [hs]; exact decide_eq_false fun w => hz w.symm
            dsimp only
            split at i1
            · rename_i d' hd
              rw [hd]
              obtain ⟨e', j1, j2⟩ := i1
              exact ⟨e', by rw [List.find?_cons, hs']; exact j1, j2⟩
            · rename_i hd
              rw [hd]
              dsimp only
              rw [List.find?_cons, hs']
              exact i1
        | _ => rw [hk] at h1; cases h1
  obtain ⟨g1, g2⟩ := go es.toList kvs hl h
  unfold PySem.W.nsIn
  rw [lk]
  dsimp only
  split at g1
  · rename_i d hd
    obtain ⟨e, j1, j2⟩ := g1
    rw [j1]
    exact ⟨_, rfl, j2⟩
  · rename_i hd
    rw [g1]
    dsimp only
    rw [g2]
    rfl
theorem getD_lt {α : Type} {l : List α} {i : Nat} {d : α} (h : i < l.length) : l.getD i d = l[i] := by simp [List.getD_eq_getElem?_getD, h]
theorem getD_ge {α : Type} {l : List α} {i : Nat} {d : α} (h : l.length ≤ i) : l.getD i d = d := by simp [List.getD_eq_getElem?_getD, h]
theorem inj_of (ho : t.ok = true) {f g : Nat} (hf : f < t.names.length) (h : t.nm f = t.nm g) : f = g := by
  unfold TD.ok at ho
  simp only [Bool.and_eq_true, decide_eq_true_eq] at ho
  obtain ⟨⟨⟨⟨⟨⟨⟨⟨⟨_, _⟩, nd⟩, ne⟩, _⟩, _⟩, _⟩, _⟩, _⟩, _⟩ := ho
  unfold TD.nm at h
  by_cases hg : g < t.names.length
  · rw [getD_lt hf, getD_lt hg] at h
    exact (List.getElem_inj nd).mp h
  · rw [getD_lt hf, getD_ge (by omega)] at h
    exact absurd (h ▸ List.getElem_mem hf) ne
/-- ALL that stands still, from the table -/
theorem sta_of (ho : t.ok = true) (h : t.obs K = t.val w) (P : Program) {mg : Str → Option Value} {base hp : Heap} (X : K.In hp) (G : hp.Ns mainGlobals mg) : Sta ⟨P, w, K, mg, base, t.gs K⟩ := by
  have on := obs_on h
  unfold TD.on at on
  simp only [Bool.and_eq_true] at on
  obtain ⟨⟨⟨⟨⟨⟨⟨⟨⟨⟨o1, o2⟩, o3⟩, o4⟩, o5⟩, o6⟩, o7⟩, o8⟩, o9⟩, o10⟩, o11⟩ := on
  have ho' := ho
  unfold TD.ok at ho'
  simp only [Bool.and_eq_true, decide_eq_true_eq] at ho'
  obtain ⟨⟨⟨⟨⟨⟨⟨⟨⟨p1, p2⟩, p3⟩, p4⟩, p5⟩, p6⟩, p7⟩, p8⟩, p9⟩, p10⟩ := ho'
  rw [List.all_eq_true] at o1 o2 o3 o5 o6 o9 o10 o11 p1 p2 p5 p7
  have clsA : ∀ c ci, t.clss.lookup c = some ci → Cls K (He.ga K (t.nm c)) ∧ ∀ f ∈ ci.flds, NoAttr K (He.ga K (t.nm c)) (t.nm f) := fun c ci hc => by
    have := o6 _ (lookup_mem hc)
    simp only [Bool.and_eq_true, List.all_eq_true] at this
    obtain ⟨⟨⟨⟨⟨⟨q1, q2⟩, q3⟩, q4⟩, q5⟩, q6⟩, q7⟩ := this
    exact ⟨He.cls_ok q1, fun f hf => He.noat_ok (q3 f hf)⟩
  have fnE : ∀ k f, t.fnT k = some f → ∃ x qual ps kd dx body scope dvs fd N, FnSt ⟨P, w, K, mg, base, t.gs K⟩ k f.fi x qual ps kd dx body scope dvs fd N := fun k f hk => by
    obtain ⟨hm, hid⟩ := fnT_mem hk
    have q := o5 f hm
    simp only [Bool.and_eq_true] at q
    obtain ⟨q1, q2⟩ := q
    have z := p1 f hm
    unfold FnT.ok at z
    simp only [Bool.and_eq_true, decide_eq_true_eq] at z
    obtain ⟨⟨⟨⟨⟨z1, z2⟩, z3⟩, z4⟩, z5⟩, z6⟩ := z
    obtain ⟨fd, F⟩ := FnT.asks_ok (obs_fn h hm) q1
    have fa : (t.gs K).fA k = f.ad K := by show (match t.fnT k with | some f => f.ad K | none => 0) = _; rw [hk]
    have e1 : defArgs f.st = ⟨[], (defArgs f.st).args, none, [], (defArgs f.st).kw_defaults, none, (defArgs f.st).defaults⟩ := plainA_ok z1
    refine ⟨f.name, f.qual, (defArgs f.st).args, (defArgs f.st).kw_defaults, (defArgs f.st).defaults, defBody f.st, defScope f.st, f.d.dvs K, fd, f.N, ⟨?_, z2, scB_ok z3, z4, repVs_ok (G := t.gs K) q2, z5, z6⟩⟩
    show FunD K f.name f.qual ⟨[], (defArgs f.st).args, none, [], (defArgs f.st).kw_defaults, none, (defArgs f.st).defaults⟩ (defBody f.st) (defScope f.st) (f.d.dvs K) [] ((t.gs K).fA k) fd
    rw [fa, ← e1]
    exact F
  have fnI : ∀ k fi, t.it.fn k = some fi → ∃ f, t.fnT k = some f ∧ f.fi = fi := fun k fi hk => by
    have hk : (t.fnT k).map (·.fi) = some fi := hk
    simp only [Option.map_eq_some_iff] at hk
    exact hk
  refine { gl := ⟨fun x z => ?_, fun x => ?_⟩, mg := ⟨fun x d hd => ?_, fun f => ?_, He.free_ok X G o4⟩, ty := ⟨fun c ci H a dx fs hc e => ?_, fun c u ci cj hc hu => ?_, fun u cj hu n hn => ?_, fun c ci hc n hn => ?_, fun u cj hu => ?_⟩, K := rfl, inj := fun c ci f g hc hf e => ?_, cls := clsA, fn := fun k fi hk => ?_, kn := fun f hf => ?_, meth := fun c m k hk => ?_, prop := fun c m k hk => ?_, nIn := p9, nBool := p10, nod := fun c => ?_ }
  · -- dicts of the written part
    show (match ((t.kds.lookup x).getD []).lookup z with | some d => _ | none => _) ∨ (t.kds.lookup x).getD [] = []
    cases hx : t.kds.lookup x with
    | none => exact .inr rfl
    | some kvs =>
      refine .inl ?_
      have q := o2 _ (lookup_mem hx)
      split at q
      · rename_i oc od es n sl lk
        simp only [Bool.and_eq_true, decide_eq_true_eq] at q
        have := ns_find lk q.1 q.2 z
        show match kvs.lookup z with | some d => _ | none => _
        cases hz : kvs.lookup z with
        | none => rw [hz] at this; exact this
        | some d =>
          rw [hz] at this
          obtain ⟨u, y1, y2⟩ := this
          obtain ⟨v, y3, y4⟩ := repU_ok (G := t.gs K) y2
          exact ⟨u, v, y1, y3, y4⟩
      · cases q
  · show (t.kds.lookup x).getD [] = [] ∨ ∃ es n, KDict K w (He.ga K (t.nm x)) es n
    cases hx : t.kds.lookup x with
    | none => exact .inl rfl
    | some kvs => exact .inr (obs_tab h (lookup_mem hx))
  · have q := o1 _ (lookup_mem (show t.globs.lookup x = some d from hd))
    split at q
    · rename_i u hu
      obtain ⟨v, y3, y4⟩ := repU_ok (G := t.gs K) q
      exact ⟨u, v, PySem.W.mg_of X G hu, y3, y4⟩
    · cases q
  · exact He.free_ok X G (o3 f (by cases f <;> decide))
  · have := o6 _ (lookup_mem (show t.clss.lookup c = some ci from hc))
    simp only [Bool.and_eq_true, List.all_eq_true] at this
    obtain ⟨⟨⟨⟨⟨⟨q1, q2⟩, q3⟩, q4⟩, q5⟩, q6⟩, q7⟩ := this
    exact .base (.ins e (He.cls_ok q1) (He.eqO_ok q4) (He.eqO_ok o7) (of_decide_eq_true o8) (of_decide_eq_true q5))
  · have := o6 _ (lookup_mem (show t.clss.lookup c = some ci from hc))
    simp only [Bool.and_eq_true, List.all_eq_true] at this
    obtain ⟨⟨⟨⟨⟨⟨q1, q2⟩, q3⟩, q4⟩, q5⟩, q6⟩, q7⟩ := this
    exact of_decide_eq_true (q6 _ (lookup_mem (show t.clss.lookup u = some cj from hu)))
  · have := o6 _ (lookup_mem (show t.clss.lookup u = some cj from hu))
    simp only [Bool.and_eq_true, List.all_eq_true] at this
    obtain ⟨⟨⟨⟨⟨⟨q1, q2⟩, q3⟩, q4⟩, q5⟩, q6⟩, q7⟩ := this
    exact of_decide_eq_true (q7 n hn).1
  · have := o6 _ (lookup_mem (show t.clss.lookup c = some ci from hc))
    simp only [Bool.and_eq_true, List.all_eq_true] at this
    obtain ⟨⟨⟨⟨⟨⟨q1, q2⟩, q3⟩, q4⟩, q5⟩, q6⟩, q7⟩ := this
    exact of_decide_eq_true (q7 n hn).2
  · have := o6 _ (lookup_mem (show t.clss.lookup u = some cj from hu))
    simp only [Bool.and_eq_true, List.all_eq_true] at this
    obtain ⟨⟨⟨⟨⟨⟨q1, q2⟩, q3⟩, q4⟩, q5⟩, q6⟩, q7⟩ := this
    exact He.glo_ok X G q2
  · have := p2 _ (lookup_mem (show t.clss.lookup c = some ci from hc))
    rw [List.all_eq_true] at this
    exact inj_of ho (of_decide_eq_true (this f hf)) e
  · obtain ⟨f, hf, rfl⟩ := fnI k fi hk
    exact fnE k f hf
  · have q := o10 f (by have hf : t.kn.contains f = true := hf; simpa using hf)
    simp only [Bool.and_eq_true] at q
    obtain ⟨⟨q1, q2⟩, q3⟩ := q
    refine ⟨He.glo_ok X G q1, He.keep_ok q2, ?_⟩
    split at q3
    · rename_i ci hc
      split at q3
      · rename_i g hg
        simp only [Bool.and_eq_true, decide_eq_true_eq] at q3
        obtain ⟨⟨r1, r2⟩, r3⟩ := q3
        refine .inl ⟨ci, g.fi, hc, ?_, r1, rfl, ?_⟩
        · show (t.fnT ci.init).map (·.fi) = _
          rw [hg]
          rfl
        · show Mk K (He.ga K (t.nm f)) ((t.gs K).fA ci.init)
          rw [r3]
          exact He.mkr_ok r2
      · cases q3
    · rename_i hc
      simp only [Bool.and_eq_true, decide_eq_true_eq] at q3
      obtain ⟨r1, r2⟩ := q3
      obtain ⟨g, hg⟩ := Option.isSome_iff_exists.mp r1
      refine .inr ⟨hc, ⟨g.fi, ?_⟩, r2.symm⟩
      show (t.fnT f).map (·.fi) = _
      rw [hg]
      rfl
  · have hk' : (t.meths.find? fun q => q.1 == c && q.2.1 == m).map (·.2.2) = some k := hk
    simp only [Option.map_eq_some_iff] at hk'
    obtain ⟨q, hq, rfl⟩ := hk'
    have hmem := List.mem_of_find?_eq_some hq
    have hp := List.find?_some hq
    simp only [Bool.and_eq_true, beq_iff_eq] at hp
    obtain ⟨rfl, rfl⟩ := hp
    have z := p5 q hmem
    simp only [Bool.and_eq_true] at z
    obtain ⟨⟨⟨z1, z2⟩, z3⟩, z4⟩ := z
    have y := o9 q hmem
    simp only [Bool.and_eq_true, decide_eq_true_eq] at y
    obtain ⟨⟨y1, y2⟩, y3⟩ := y
    obtain ⟨g, hg⟩ := Option.isSome_iff_exists.mp z3
    refine ⟨Option.isNone_iff_eq_none.mp z2, ⟨g.fi, ?_⟩, ?_, He.cls_ok y2, fun ci hc => ?_⟩
    · show (t.fnT q.2.2).map (·.fi) = _
      rw [hg]
      rfl
    · show Meth K (He.ga K (t.nm q.1)) (t.nm q.2.1) ((t.gs K).fA q.2.2)
      rw [y3]
      exact He.meth_ok y1
    · have hc : t.clss.lookup q.1 = some ci := hc
      rw [hc] at z4
      exact of_decide_eq_true z4
  · have hk' : (t.props.find? fun q => q.1 == c && q.2.1 == m).map (·.2.2) = some k := hk
    simp only [Option.map_eq_some_iff] at hk'
    obtain ⟨q, hq, rfl⟩ := hk'
    have hmem := List.mem_of_find?_eq_some hq
    have hp := List.find?_some hq
    simp only [Bool.and_eq_true, beq_iff_eq] at hp
    obtain ⟨rfl, rfl⟩ := hp
    have z := p7 q hmem
    rw [Bool.and_eq_true] at z
    have y := o11 q hmem
    rw [Bool.and_eq_true] at y
    refine ⟨Option.isNone_iff_eq_none.mp z.1, ?_, He.cls_ok y.1, _, propB_ok y.2⟩
    have z2 := z.2
    split at z2
    · rename_i g hg
      refine ⟨g.fi, ?_, of_decide_eq_true z2⟩
      show (t.fnT q.2.2).map (·.fi) = _
      rw [hg]
      rfl
    · cases z2
  · have none_ : ∀ i : Nat, i < 8 → i ≠ 4 → i ≠ 5 → t.it.meth c (t.sp.getD i 0) = none := fun i hi h4 h5 => by
      show (t.meths.find? fun q => q.1 == c && q.2.1 == t.sp.getD i 0).map (·.2.2) = none
      rw [Option.map_eq_none_iff, List.find?_eq_none]
      intro q hq
      have z := p5 q hq
      simp only [Bool.and_eq_true, Bool.or_eq_true, decide_eq_true_eq] at z
      intro w
      simp only [Bool.and_eq_true, beq_iff_eq] at w
      have z1 := z.1.1.1
      have ne_ : ∀ j, j < 8 → i ≠ j → t.sp.getD i 0 ≠ t.sp.getD j 0 := fun j hj hij e => by
        rw [getD_lt (by omega), getD_lt (by omega)] at e
        exact hij ((List.getElem_inj p8).mp e)
      rw [w.2] at z1
      rcases z1 with (z1 | z1) | z1
      · exact ne_ 4 (by omega) h4 z1
      · exact ne_ 5 (by omega) h5 z1
      · rw [getD_lt (by omega)] at z1
        simp at z1
    exact ⟨none_ 0 (by decide) (by decide) (by decide), none_ 1 (by decide) (by decide) (by decide), none_ 2 (by decide) (by decide) (by decide), none_ 3 (by decide) (by decide) (by decide), none_ 6 (by decide) (by decide) (by decide), none_ 7 (by decide) (by decide) (by decide)⟩
end
end Wk

set_option Elab.async false
set_option linter.all false
set_option maxRecDepth 100000
set_option maxHeartbeats 4100000
/-! The law's def called at the top, where no repr is under way. -/
namespace Wk
open PySem L2 PySem.Spec PyProof.Rows
section
variable {P : Program} {w : World} {K : PySem.W.Frag} {mg mb : Str → Option Value} {k : Nat} {fa a : Addr} {fd : FuncData} {x : Str} {sp : Sp} {st : Shared} {vs : List Value} {ns : List Int}
/-- what is asked of its end -/
def TopEnd (st : Shared) (r : Result) (t : Shared) : Prop := r = .ok (.ret (.bool true)) ∧ OldK st.heap t.heap ∧ t.os = st.os ∧ AllBare t.gens
theorem top_from (kin : K.In st.heap) (glb : st.heap.Ns mainGlobals mg) (bns : st.heap.Ns builtinsNs mb) (bok : ∀ y : Str, y ≠ "__name__" → mb y = bootBuiltins y) (nol : st.heap.NoLimit) (gen0 : st.gens = #[])
    (scr : st.heap.get? a = some { cls := .type "list", data := .seq vs.toArray }) (room : Room k callerA) (prom : ∀ bs : Heap, K.In bs → bs.Ns mainGlobals mg → FnG P w K mg bs k fa fd [x] sp) (one : ∀ (t : Shared) (u : Value), BindsTo t fd ⟨[u], []⟩ [(x, u)])
    {T : Hp} (wish : sp [.ref a] T (fun v _ => v = .bl true) fun _ _ _ => False) (okT : HOk P w T st.heap) (only : Only T) (dom : ∀ b u, T b = some u → b = a) (off : ∀ u, T a = some u → K.lookup a = none) :
    codeAny (model P w) callerA (.call (.ref fa) ⟨[.ref a], []⟩) (TopEnd st) st := by
  have hid : ∀ b o, st.heap.get? b = some o → T b = none → (hidT st.heap T).get? b = some o := fun b o e n => hidT_get e n
  have hidK : K.In (hidT st.heap T) := by
    intro b o e
    refine hid b o (kin b o e) ?_
    cases hq : T b with
    | none => rfl
    | some u =>
      obtain rfl := dom b u hq
      have z := off u hq
      rw [e] at z
      cases z
  have hidNs : ∀ (b : Addr) (m : Str → Option Value), st.heap.Ns b m → (hidT st.heap T).Ns b m := by
    rintro b m ⟨o, es, n, e, d, r⟩
    refine ⟨o, es, n, hid b o e ?_, d, r⟩
    cases hq : T b with
    | none => rfl
    | some u =>
      obtain rfl := dom b u hq
      have z := Option.some.inj (scr.symm.trans e)
      rw [← z] at d
      cases d
  obtain ⟨mc, c1, c2⟩ := nol
  have env : Env0 P w K mg (hidT st.heap T) callerA [] st T := by
    refine ⟨rfl, ⟨hidK, hidNs _ _ glb, ⟨mb, hidNs _ _ bns, bok⟩, ⟨mc, hidNs _ _ c1, c2⟩⟩, fun b o e => of_hidT e, ?_, trivial, fun b hb => ?_, okT, .of_eq gen0⟩
    · rw [hidT_size]
      exact Nat.le_refl _
    · cases hb
  have main := prom _ hidK (hidNs _ _ glb) callerA [] st T ⟨[.ref a], []⟩ [.ref a] [.ref a] _ _ room rfl env (one st (.ref a)) (.cons rfl .nil) wish
  refine codeAny_mono main fun r t h => ?_
  match r, h with
  | .error u, h =>
    obtain ⟨_, _, _, _, _, _, _, _, _, _, _, _, never⟩ := h
    exact never.elim
  | .ok .next, h => exact h.elim
  | .ok .brk, h => exact h.elim
  | .ok .cont, h => exact h.elim
  | .ok (.ret u), h =>
    obtain ⟨v, T', os, bare, un, okT', rv, rfl⟩ := h
    have eu : u = .bool true := rv
    subst eu
    refine ⟨rfl, OldK.of_keep (fun b o e => ?_), os, bare⟩
    rcases only b with n | ⟨ob, ys, n⟩
    · exact un.keep b o e n (fun z => by cases z) (by simp)
    · obtain ⟨p1, _⟩ := okT b _ n
      obtain ⟨p2, _⟩ := okT' b _ (un.frzs b ob _ n)
      rw [e] at p1
      cases p1
      exact p2
theorem top_run (kin : K.In st.heap) (glb : st.heap.Ns mainGlobals mg) (bns : st.heap.Ns builtinsNs mb) (bok : ∀ y : Str, y ≠ "__name__" → mb y = bootBuiltins y) (nol : st.heap.NoLimit) (gen0 : st.gens = #[])
    (scr : st.heap.get? a = some { cls := .type "list", data := .seq vs.toArray }) (hIs : IntsAre vs ns) (short : ns.length ≤ sizeLine) (room : Room k callerA) (prom : ∀ bs : Heap, K.In bs → bs.Ns mainGlobals mg → FnG P w K mg bs k fa fd [x] sp)
    (one : ∀ (t : Shared) (u : Value), BindsTo t fd ⟨[u], []⟩ [(x, u)]) (wish : ∀ T : Hp, SqL K T a (ns.map V.int) → sp [.ref a] T (fun v _ => v = .bl true) fun _ _ _ => False) :
    codeAny (model P w) callerA (.call (.ref fa) ⟨[.ref a], []⟩) (TopEnd st) st := by
  have rv : Vals (ns.map V.int) vs := vals_ints hIs
  have ln : vs.length ≤ sizeLine := by rw [hIs.length]; exact short
  cases here : K.lookup a with
  | some o =>
    have e := Option.some.inj (scr.symm.trans (kin a o here))
    subst e
    exact top_from kin glb bns bok nol gen0 scr room prom one (T := fun _ => none) (wish _ (.inr ⟨_, vs.toArray, _, here, rfl, rfl, rfl, by simpa using ln, by simpa using rv⟩)) (fun b u z => by cases z) (fun b => .inl rfl) (fun b u z => by cases z) fun u z => by cases z
  | none =>
    have at_ : ∀ {b : Addr} {u : HO}, (if b = a then some (HO.frz { cls := .type "list", data := .seq vs.toArray } (.lst (ns.map V.int))) else none) = some u → b = a ∧ HO.frz { cls := .type "list", data := .seq vs.toArray } (.lst (ns.map V.int)) = u := fun {b u} z => by
      split at z
      · exact ⟨‹_›, Option.some.inj z⟩
      · cases z
    refine top_from kin glb bns bok nol gen0 scr room prom one (T := fun b => if b = a then some (.frz { cls := .type "list", data := .seq vs.toArray } (.lst (ns.map V.int))) else none) (wish _ (.inl (.inr ⟨_, if_pos rfl⟩))) (fun b u z => ?_) (fun b => ?_) (fun b u z => (at_ z).1) fun _ _ => here
    · obtain ⟨rfl, rfl⟩ := at_ z
      exact ⟨scr, by simpa using short, vs, _, rv, scr⟩
    · by_cases q : b = a
      · exact .inr ⟨_, _, if_pos q⟩
      · exact .inl (if_neg q)
end
end Wk

set_option Elab.async false
set_option linter.all false
set_option maxRecDepth 100000
set_option maxHeartbeats 4100000
/-! The law, attached. -/
namespace Wk
open PySem L2 PySem.Spec PyProof.Rows
/-- the script, as a tree -/
def ScD (sc : D) (ns : List Int) : Prop := sc = .lst (ns.map .int) ∨ sc = .kl (ns.map .int)
theorem sp_start {B : Bg} {n : Nat} {fi : FnI} {p0 : Nat} (hpos : fi.pos = [p0]) (hK : B.G.K = B.K) {H : Hp} {a : Addr} {ns : List Int} (hS : SqL B.K H a (ns.map V.int))
    (law : ∀ sc, ScD sc ns → ∃ s', retO B.G.T fi (exB B.G.T (callI B.G.T n) fi.body (startE fi.nloc [sc]) []) = .ok (.bl true) s') : spF B n fi [.ref a] H (fun v _ => v = .bl true) fun _ _ _ => False := by
  let F0 : Frm := ⟨B.G, H, fun _ => False, fun _ _ _ => False, fun _ => False, fun _ => False⟩
  let W0 : Wd := ⟨[], fun _ => False, H⟩
  have sf : SF F0 (fun _ => False) [] [] [] W0 := by
    refine ⟨fun a => ⟨fun z => z.elim, ?_⟩, rfl, fun i d q => ?_, fun i o q => ?_, fun i j o o' a q => ?_, rfl, fun n o q => ?_, List.nodup_nil, fun a o q _ _ => q, fun a z => z.elim, fun a z => z.elim, fun a z => ?_, fun i c ns ds a q => ?_⟩
    · rintro (z | z | ⟨i, o, z, _⟩)
      · exact z
      · cases z
      · simp at z
    · simp at q
    · simp at q
    · simp at q
    · simp at q
    · cases z
    · simp at q
  have fin : ∀ sc, ScD sc ns → Rep B.G W0 sc (.ref a) → spF B n fi [.ref a] H (fun v _ => v = .bl true) fun _ _ _ => False := fun sc hsc r => by
    refine ⟨F0, fun _ => False, [], [], [], W0, [sc], rfl, rfl, rfl, sf, .cons r .nil, by rw [hpos]; rfl, ?_⟩
    obtain ⟨s', e⟩ := law sc hsc
    show Pk F0 _ [] [] W0 (retO B.G.T fi (exB B.G.T (callI B.G.T n) fi.body (startE fi.nloc [sc]) [])) _
    rw [e]
    exact fun W' l v sf' rv => rv.bl_inv
  rcases hS with hS | ⟨o, its, m, h1, h2, h3, h4, h5, h6⟩
  · refine fin (.lst (ns.map .int)) (.inl rfl) ?_
    simp only [Rep]
    exact ⟨a, _, rfl, Reps.of_ints ns, fun z => z, hS⟩
  · refine fin (.kl (ns.map .int)) (.inr rfl) ?_
    simp only [Rep]
    exact ⟨a, _, rfl, Reps.of_ints ns, .inr ⟨o, its, m, by rw [hK]; exact h1, h2, h3, h4, h5, h6⟩⟩
theorem walkW {l : PySem.W.OpenLaw} {q : Program} {loose : List Str} {XP : (Str → Option Value) → Heap → Prop} {d : DefRec} {t : TD} {nh : Nat} (hn : l.most = some 63) (hdf : d.params.defaults = []) (ok : t.ok = true) {lid m p0 : Nat} {f : FnT} (hf : t.fnT lid = some f) (hcls : t.clss.lookup lid = none)
    (hpos : f.fi.pos = [p0]) (hdfl : f.fi.dfl = []) (hname : d.name = t.nm lid) (hkn : t.kn.contains lid = true) (hr : Room (2 * m + 1) callerA)
    (law : ∀ (ns : List Int), ns.length ≤ 63 → ∀ sc, ScD sc ns → ∃ s', callI t.it (m + 1) lid [sc] [] [] = .ok (.bl true) s') :
    PySem.W.WalkO q loose XP (t.hook nh).says l.row.toRowW d [] (fun f vs => PySem.call f vs) := by
  refine Att.attach_call hn hdf fun w t0 t1 mg mb fa o pm cd doc a vs ns Gr Y ho hd hcd hmg0 hobj isI short gen0 => ?_
  · obtain ⟨K, KX, c⟩ := Y
    have G := Gr.T.g
    have S : ∀ base, Sta ⟨l.prog, w, K, mg, base, t.gs K⟩ := fun base => sta_of ok c l.prog KX G
    have hfn : t.it.fn lid = some f.fi := by show (t.fnT lid).map (·.fi) = _; rw [hf]; rfl
    obtain ⟨g1, g2, g3⟩ := (S t1.heap).kn lid hkn
    have efa : fa = (t.gs K).fA lid := by
      rcases g3 with ⟨ci, fi, z1, _⟩ | ⟨_, _, z⟩
      · rw [show (t.gs K).T.cls lid = none from hcls] at z1
        cases z1
      · have g1 : mg (t.nm lid) = some (.ref ((t.gs K).gA lid)) := g1
        rw [← hname, hmg0] at g1
        cases g1
        exact z
    obtain ⟨x, qual, ps, kd, dx, body, scope, dvs, fd, N, st⟩ := (S t1.heap).fn lid f.fi hfn
    have epos : ps.map (·.arg) = [t.nm p0] := by rw [st.pos, hpos]; rfl
    have one : ∀ us : List Value, ∀ s : Shared, us.length = 1 → BindsTo s fd ⟨us, []⟩ ((ps.map (·.arg)).zip us) := fun us s hu => by
      obtain ⟨oc, od, dV, kV, doc, pm, an, cdv, ct, osl, efd, lk, hcd, hD, hK⟩ := st.fn.ex
      have hdv : dvs = [] := by
        have := (st.dfl ⟨[], fun _ => False, fun _ => none⟩).length
        rw [hdfl] at this
        exact List.eq_nil_of_length_eq_zero this.symm
      have hdV : dV = .none := by
        rcases hD with ⟨_, e⟩ | ⟨ne, _⟩
        · exact e
        · exact absurd hdv ne
      have lp : ps.length = 1 := by have := congrArg List.length epos; simpa using this
      refine BindsTo.of_looks fun M => ?_
      have := bindArgs_plain (M := M) (h := s.heap) (fd := fd) (ps := ps) (kd := kd) (ds := dx) (by rw [efd]) (us := us) (kws := []) (dfl := []) (r := []) (by rw [efd, hdV]; exact .of_pure rfl) (by rw [epos]; simp) (by omega) (Nat.zero_le _) (by simp) (by simp) (by
        have e0 : (ps.map (·.arg)).drop us.length = [] := by rw [List.drop_eq_nil_iff, List.length_map]; omega
        rw [e0]
        rfl)
      rw [List.append_nil] at this
      exact this
    refine top_run (w := w) (sp := spF ⟨l.prog, w, K, mg, t1.heap, t.gs K⟩ m f.fi) (x := t.nm p0) (fd := fd) KX G Gr.T.b Gr.T.builtins Gr.T.nolimit gen0 hobj isI (Nat.le_trans short (by decide)) hr (fun bs hb hB => ?_) (fun s u => ?_) fun T hS => ?_
    · have fr := fn_rule (S bs).toStat (calls_ok (S bs) m) (n := m) (k := 2 * m) (f := lid) (fi := f.fi) (x := x) (qual := qual) (ps := ps) (kd := kd) (dx := dx) (body := body) (scope := scope) (dvs := dvs) (fd := fd) (N := N) ⟨st.fn, st.pos, st.sc, st.loc, st.dfl, st.dl, st.ck⟩
      rw [epos] at fr
      rw [efa]
      exact fr
    · have := one [u] s rfl
      rw [epos] at this
      exact this
    · refine sp_start (B := ⟨l.prog, w, K, mg, t1.heap, t.gs K⟩) hpos rfl hS fun sc hsc => ?_
      obtain ⟨s', e⟩ := law ns short sc hsc
      refine ⟨s', ?_⟩
      have e1 : callI t.it (m + 1) lid [sc] [] [] = callF t.it (callI t.it m) f.fi [sc] [] [] := by
        show (match t.it.cls lid with | some ci => _ | none => _) = _
        rw [show t.it.cls lid = none from hcls]
        dsimp only
        rw [hfn]
      rw [e1] at e
      unfold callF at e
      have eb : bindP f.fi.pos f.fi.dfl [sc] ([] : List (Nat × D)) = some [sc] := by rw [hpos]; rfl
      rw [eb] at e
      exact e
end Wk

set_option Elab.async false
set_option linter.all false
set_option maxRecDepth 100000
set_option maxHeartbeats 0
namespace K12
open PySem L2 PySem.Spec PyProof.Rows Wk
abbrev pw : PySem.Program := PySem.Challenge.pw_evertreads_k12_whole_walks_step_by_step
def top (i : Nat) : Stmt := pw.main.body.getD i (.Pass ⟨0, 0, 0, 0⟩)
def meth (i k : Nat) : Stmt := match top i with
  | .ClassDef _ _ _ body _ _ _ _ _ _ _ => body.getD k (.Pass ⟨0, 0, 0, 0⟩)
  | _ => .Pass ⟨0, 0, 0, 0⟩
def b_law : Blk := (.cons (.par [1, 2] (.cons (.call 29 (.cons (.cst (.str "2 R")) .nil) [] .nil) (.cons (.call 29 (.cons (.cst (.str "4 L 2 L 2 L 2 L")) .nil) [40] (.cons (.cst (.str "E")) .nil)) .nil))) (.cons (.asg false (.nm 3) (.lst (.cons (.meth (.loc 1) 39 (.cons (.bin .Pow (.cst (.int 10)) (.cst (.int 30))) .nil) [] .nil) (.cons (.meth (.loc 1) 38 (.cons (.cst (.int 3)) .nil) [] .nil) (.cons (.meth (.loc 2) 39 (.cons (.cst (.int 25)) .nil) [] .nil) (.cons (.meth (.call 29 (.cons (.cst (.str "1 R 1 L")) .nil) [] .nil) 39 (.cons (.bin .Pow (.cst (.int 10)) (.cst (.int 30))) .nil) [] .nil) (.cons (.meth (.call 29 (.cons (.cst (.str "B 1 L 9")) .nil) [] .nil) 38 (.cons (.cst (.int 0)) .nil) [] .nil) .nil))))))) (.cons (.ife (.cmp .NotEq (.loc 3) (.lst (.cons (.tup (.cons (.cst (.int 0)) (.cons (.cst (.int 0)) .nil))) (.cons (.cst (.str "E")) (.cons (.tup (.cons (.cst (.int 8)) (.cons (.cst (.int 1)) .nil))) (.cons (.tup (.cons (.bin .Mult (.cst (.int 5)) (.bin .Pow (.cst (.int 10)) (.cst (.int 29)))) (.cons (.bin .Mult (.cst (.int 5)) (.bin .Pow (.cst (.int 10)) (.cst (.int 29)))) .nil))) (.cons (.cst (.str "S")) .nil))))))) (.cons (.ret (.cst (.bl false))) .nil) .nil) (.cons (.ret (.bi .all (.cons (.lc (.call 1 (.cons (.call 2 (.cons (.loc 0) (.cons (.loc 4) .nil)) [] .nil) .nil) [] .nil) [4] false (.bi .range (.cons (.bi .max (.cons (.cst (.int 2)) (.cons (.bi .min (.cons (.bi .len (.cons (.loc 0) .nil)) (.cons (.cst (.int 6)) .nil))) .nil))) .nil)) .nil [4]) .nil))) .nil))))
def i_law : FnI := { pos := [41], dfl := [], kwo := [], kdf := [], star := false, nloc := 5, body := b_law, cell := false }
def t_law : FnT := ⟨0, ("law", none), "law", "law", i_law, top 90, ["script", "ring", "comb", "seen", "spot"], false⟩
def b_Walker_init : Blk := (.cons (.ife (.not (.call 3 (.cons (.loc 1) .nil) [] .nil)) (.cons (.rse 0 .nil) .nil) .nil) (.cons (.ife (.not (.isi (.loc 2) 28)) (.cons (.exp (.call 4 (.cons (.loc 2) .nil) [] .nil)) .nil) .nil) (.cons (.ife (.not (.call 5 (.cons (.loc 3) .nil) [] .nil)) (.cons (.rse 0 .nil) .nil) .nil) (.cons (.asg false (.at (.loc 0) 48) (.loc 1)) (.cons (.asg false (.at (.loc 0) 44) (.ife (.isi (.loc 2) 28) (.attr (.loc 2) 47) (.loc 2))) (.cons (.asg false (.at (.loc 0) 40) (.loc 3)) (.cons (.asg false (.nm 4) (.call 6 (.cons (.loc 1) (.cons (.loc 3) .nil)) [] .nil)) (.cons (.asg false (.at (.loc 0) 45) (.slc (.loc 4) .no (.so (.call 7 (.cons (.loc 4) .nil) [] .nil)))) (.cons (.asg false (.at (.loc 0) 46) (.bi .len (.cons (.attr (.loc 0) 45) .nil))) (.cons (.asg false (.at (.loc 0) 43) (.call 8 (.cons (.attr (.loc 0) 44) (.cons (.attr (.loc 0) 45) .nil)) [] .nil)) (.cons (.asg false (.at (.loc 0) 42) (.tup (.cons (.bin .Sub (.idx (.idx (.attr (.loc 0) 43) (.neg (.cst (.int 1)))) (.cst (.int 0))) (.idx (.attr (.loc 0) 44) (.cst (.int 0)))) (.cons (.bin .Sub (.idx (.idx (.attr (.loc 0) 43) (.neg (.cst (.int 1)))) (.cst (.int 1))) (.idx (.attr (.loc 0) 44) (.cst (.int 1)))) .nil)))) .nil)))))))))))
def i_Walker_init : FnI := { pos := [49, 48, 44, 40], dfl := [(.kt [(.int 0), (.int 0)]), (.str "N")], kwo := [], kdf := [], star := false, nloc := 5, body := b_Walker_init, cell := false }
def t_Walker_init : FnT := ⟨1000, ("Walker", some "__init__"), "__init__", "Walker.__init__", i_Walker_init, meth 75 0, ["self", "row", "start", "way", "ways"], false⟩
def b_Walker_at : Blk := (.cons (.exp (.call 9 (.cons (.loc 1) .nil) [] .nil)) (.cons (.ret (.meth (.loc 0) 50 (.cons (.loc 1) .nil) [] .nil)) .nil))
def i_Walker_at : FnI := { pos := [49, 51], dfl := [], kwo := [], kdf := [], star := false, nloc := 2, body := b_Walker_at, cell := false }
def t_Walker_at : FnT := ⟨1001, ("Walker", some "at"), "at", "Walker.at", i_Walker_at, meth 75 2, ["self", "time"], false⟩
def b_Walker_goes : Blk := (.cons (.exp (.call 9 (.cons (.loc 1) .nil) [] .nil)) (.cons (.ret (.idx (.glb 52) (.idx (.attr (.loc 0) 45) (.bin .Mod (.bi .int (.cons (.loc 1) .nil)) (.attr (.loc 0) 46))))) .nil))
def i_Walker_goes : FnI := { pos := [49, 51], dfl := [], kwo := [], kdf := [], star := false, nloc := 2, body := b_Walker_goes, cell := false }
def t_Walker_goes : FnT := ⟨1002, ("Walker", some "goes"), "goes", "Walker.goes", i_Walker_goes, meth 75 4, ["self", "time"], false⟩
def b_law_right : Blk := (.cons (.fr [1] false (.bi .range (.cons (.cst (.int 4)) .nil)) (.cons (.par [2, 3, 4] (.cons (.call 10 (.cons (.loc 0) (.cons (.cst (.int 8)) (.cons (.cst (.int 9)) .nil))) [] .nil) (.cons (.call 11 (.cons (.loc 0) .nil) [] .nil) (.cons (.call 12 (.cons (.loc 0) (.cons (.lst (.cons (.cst (.str "N")) (.cons (.cst (.str "E")) (.cons (.cst (.str "S")) (.cons (.cst (.str "W")) .nil))))) .nil)) [] .nil) .nil)))) (.cons (.asg false (.nm 5) (.call 29 (.cons (.loc 2) (.cons (.loc 3) (.cons (.loc 4) .nil))) [] .nil)) (.cons (.asg false (.nm 6) (.call 13 (.cons (.loc 2) (.cons (.loc 3) (.cons (.loc 4) .nil))) [] .nil)) (.cons (.asg false (.nm 7) (.call 14 (.cons (.loc 2) (.cons (.loc 4) (.cons (.bin .Sub (.bi .len (.cons (.loc 6) .nil)) (.cst (.int 1))) .nil))) [] .nil)) (.cons (.asg false (.nm 8) (.bi .len (.cons (.loc 7) .nil))) (.cons (.fr [9] false (.bin .Add (.lrg (.bi .min (.cons (.loc 8) (.cons (.cst (.int 40)) .nil)))) (.lst (.cons (.bin .Sub (.loc 8) (.cst (.int 1))) .nil))) (.cons (.ife (.bo .Or (.cons (.cmp .NotEq (.meth (.loc 5) 39 (.cons (.loc 9) .nil) [] .nil) (.idx (.loc 6) (.loc 9))) (.cons (.cmp .NotEq (.meth (.loc 5) 38 (.cons (.loc 9) .nil) [] .nil) (.idx (.loc 7) (.loc 9))) .nil))) (.cons (.ret (.cst (.bl false))) .nil) .nil) .nil)) (.cons (.fr [10] false (.bi .range (.cons (.cst (.int 6)) .nil)) (.cons (.asg false (.nm 9) (.bin .Add (.call 12 (.cons (.loc 0) (.cons (.lst (.cons (.loc 8) (.cons (.bin .Pow (.cst (.int 10)) (.cst (.int 6))) (.cons (.bin .Pow (.cst (.int 10)) (.cst (.int 18))) (.cons (.bin .Sub (.bin .Pow (.cst (.int 10)) (.cst (.int 30))) (.bin .Mult (.cst (.int 2)) (.loc 8))) .nil))))) .nil)) [] .nil) (.call 15 (.cons (.loc 0) (.cons (.bin .Mult (.cst (.int 2)) (.loc 8)) .nil)) [] .nil))) (.cons (.par [11, 12] (.cons (.meth (.loc 5) 39 .nil [51] (.cons (.loc 9) .nil)) (.cons (.meth (.loc 5) 38 .nil [51] (.cons (.loc 9) .nil)) .nil))) (.cons (.ife (.bo .Or (.cons (.cmp .NotEq (.loc 11) (.call 16 (.cons (.loc 6) (.cons (.loc 9) .nil)) [] .nil)) (.cons (.cmp .NotEq (.loc 12) (.idx (.loc 7) (.bin .Mod (.bi .int (.cons (.loc 9) .nil)) (.loc 8)))) .nil))) (.cons (.ret (.cst (.bl false))) .nil) .nil) (.cons (.ife (.bo .And (.cons (.cmp .Lt (.loc 9) (.bin .Pow (.cst (.int 10)) (.cst (.int 30)))) (.cons (.cmp .NotEq (.meth (.loc 5) 39 (.cons (.bin .Add (.loc 9) (.cst (.int 1))) .nil) [] .nil) (.call 17 (.cons (.loc 11) (.cons (.loc 12) (.cons (.cst (.int 1)) .nil))) [] .nil)) .nil))) (.cons (.ret (.cst (.bl false))) .nil) .nil) .nil))))) (.cons (.ife (.bo .Or (.cons (.cmp .NotEq (.meth (.loc 5) 39 (.cons (.cst (.int 0)) .nil) [] .nil) (.loc 3)) (.cons (.cmp .NotEq (.meth (.loc 5) 39 (.cons (.bin .Pow (.cst (.int 10)) (.cst (.int 30))) .nil) [] .nil) (.call 16 (.cons (.loc 6) (.cons (.bin .Pow (.cst (.int 10)) (.cst (.int 30))) .nil)) [] .nil)) .nil))) (.cons (.ret (.cst (.bl false))) .nil) .nil) .nil))))))))) (.cons (.ret (.cst (.bl true))) .nil))
def i_law_right : FnI := { pos := [53], dfl := [], kwo := [], kdf := [], star := false, nloc := 13, body := b_law_right, cell := false }
def t_law_right : FnT := ⟨1, ("_law_right", none), "_law_right", "_law_right", i_law_right, top 89, ["cup", "turn", "orders", "begin", "side", "mine", "some", "sides", "size", "at", "again", "here", "side_here"], false⟩
def b_law_cup : Blk := (.cons (.asg false (.nm 2) (.ife (.cmp .Lt (.loc 1) (.bi .len (.cons (.loc 0) .nil))) (.idx (.loc 0) (.loc 1)) (.bin .Add (.bin .Mult (.cst (.int 7919)) (.loc 1)) (.cst (.int 104729))))) (.cons (.fr [3] false (.ife (.cmp .GtE (.loc 1) (.bi .len (.cons (.loc 0) .nil))) (.slc (.loc 0) .no (.so (.cst (.int 2)))) (.lst .nil)) (.cons (.asg false (.nm 2) (.bin .Mod (.bi .int (.cons (.bin .Add (.bin .Mult (.loc 2) (.cst (.int 31))) (.loc 3)) .nil)) (.cst (.int 1000000007)))) .nil)) (.cons (.ret (.lst (.cons (.bin .Mod (.bi .int (.cons (.bin .Add (.bin .Add (.bin .Mult (.loc 2) (.cst (.int 4099))) (.bin .Mult (.cst (.int 271)) (.loc 1))) (.cst (.int 17))) .nil)) (.cst (.int 2147483629))) (.cons (.ife (.bo .Or (.cons (.cmp .Lt (.loc 2) (.cst (.int 0))) (.cons (.cmp .GtE (.loc 2) (.bin .Pow (.cst (.int 10)) (.cst (.int 18)))) .nil))) (.bi .abs (.cons (.loc 2) .nil)) (.cst (.int 0))) .nil)))) .nil)))
def i_law_cup : FnI := { pos := [41, 54], dfl := [], kwo := [], kdf := [], star := false, nloc := 4, body := b_law_cup, cell := true }
def t_law_cup : FnT := ⟨2, ("_law_cup", none), "_law_cup", "_law_cup", i_law_cup, top 78, ["script", "spot", "cell", "one"], false⟩
def b_is_row : Blk := (.cons (.ife (.not (.isT (.loc 0) "str")) (.cons (.ret (.cst (.bl false))) .nil) .nil) (.cons (.asg false (.nm 1) (.sm .split (.loc 0) (.cst (.str " ")))) (.cons (.ife (.bo .Or (.cons (.cmp .Gt (.bi .len (.cons (.loc 1) .nil)) (.glb 56)) (.cons (.not (.bi .all (.cons (.lc (.call 18 (.cons (.loc 2) .nil) [] .nil) [2] false (.loc 1) .nil [2]) .nil))) .nil))) (.cons (.ret (.cst (.bl false))) .nil) .nil) (.cons (.ret (.bi .any (.cons (.lc (.cmp .In (.loc 2) (.glb 55)) [2] false (.loc 1) .nil [2]) .nil))) .nil))))
def i_is_row : FnI := { pos := [57], dfl := [], kwo := [], kdf := [], star := false, nloc := 3, body := b_is_row, cell := false }
def t_is_row : FnT := ⟨3, ("is_row", none), "is_row", "is_row", i_is_row, top 29, ["value", "words", "word"], false⟩
def b_check_square : Blk := (.cons (.ife (.not (.call 19 (.cons (.loc 0) .nil) [] .nil)) (.cons (.rse 0 .nil) .nil) .nil) .nil)
def i_check_square : FnI := { pos := [57], dfl := [], kwo := [], kdf := [], star := false, nloc := 1, body := b_check_square, cell := false }
def t_check_square : FnT := ⟨4, ("check_square", none), "check_square", "check_square", i_check_square, top 35, ["value"], false⟩
def b_is_way : Blk := (.cons (.ret (.bo .And (.cons (.isT (.loc 0) "str") (.cons (.cmp .Eq (.bi .len (.cons (.loc 0) .nil)) (.cst (.int 1))) (.cons (.cmp .In (.loc 0) (.glb 52)) .nil))))) .nil)
def i_is_way : FnI := { pos := [57], dfl := [], kwo := [], kdf := [], star := false, nloc := 1, body := b_is_way, cell := false }
def t_is_way : FnT := ⟨5, ("is_way", none), "is_way", "is_way", i_is_way, top 27, ["value"], false⟩
def b_ways_round : Blk := (.cons (.asg false (.tp (.cons (.nm 2) (.cons (.nm 3) .nil))) (.call 20 (.cons (.loc 0) (.cons (.loc 1) .nil)) [] .nil)) (.cons (.whl (.cmp .NotEq (.loc 3) (.sm .index (.glb 52) (.loc 1))) (.cons (.asg false (.tp (.cons (.nm 4) (.cons (.nm 3) .nil))) (.call 20 (.cons (.loc 0) (.cons (.idx (.glb 52) (.loc 3)) .nil)) [] .nil)) (.cons (.asg false (.nm 2) (.bin .Add (.loc 2) (.loc 4))) .nil))) (.cons (.ret (.loc 2)) .nil)))
def i_ways_round : FnI := { pos := [48, 40], dfl := [], kwo := [], kdf := [], star := false, nloc := 5, body := b_ways_round, cell := false }
def t_ways_round : FnT := ⟨6, ("ways_round", none), "ways_round", "ways_round", i_ways_round, top 31, ["row", "way", "found", "look", "more"], false⟩
def b_least_period : Blk := (.cons (.asg false (.nm 1) (.bi .len (.cons (.loc 0) .nil))) (.cons (.fr [2] false (.bi .range (.cons (.cst (.int 1)) (.cons (.loc 1) .nil))) (.cons (.ife (.bo .And (.cons (.cmp .Eq (.bin .Mod (.loc 1) (.loc 2)) (.cst (.int 0))) (.cons (.cmp .Eq (.slc (.loc 0) (.so (.loc 2)) .no) (.slc (.loc 0) .no (.so (.bin .Sub (.loc 1) (.loc 2))))) .nil))) (.cons (.ret (.loc 2)) .nil) .nil) .nil)) (.cons (.ret (.loc 1)) .nil)))
def i_least_period : FnI := { pos := [58], dfl := [], kwo := [], kdf := [], star := false, nloc := 3, body := b_least_period, cell := false }
def t_least_period : FnT := ⟨7, ("least_period", none), "least_period", "least_period", i_least_period, top 32, ["things", "size", "length"], false⟩
def b_positions : Blk := (.cons (.asg true (.nm 2) (.lst (.cons (.loc 0) .nil))) (.cons (.fr [3] false (.loc 1) (.cons (.app 2 (.call 21 (.cons (.idx (.loc 2) (.neg (.cst (.int 1)))) (.cons (.idx (.glb 59) (.loc 3)) (.cons (.cst (.int 1)) .nil))) [] .nil)) .nil)) (.cons (.mv [2] (.ret (.loc 2))) .nil)))
def i_positions : FnI := { pos := [44, 45], dfl := [], kwo := [], kdf := [], star := false, nloc := 4, body := b_positions, cell := false }
def t_positions : FnT := ⟨8, ("positions", none), "positions", "positions", i_positions, top 74, ["start", "ways", "found", "way"], false⟩
def b_check_time : Blk := (.cons (.ife (.not (.call 22 (.cons (.loc 0) .nil) [] .nil)) (.cons (.rse 0 .nil) .nil) .nil) .nil)
def i_check_time : FnI := { pos := [57], dfl := [], kwo := [], kdf := [], star := false, nloc := 1, body := b_check_time, cell := false }
def t_check_time : FnT := ⟨9, ("check_time", none), "check_time", "check_time", i_check_time, top 36, ["value"], false⟩
def b_Walker_stands : Blk := (.cons (.asg false (.tp (.cons (.nm 2) (.cons (.nm 3) .nil))) (.bi .divmod (.cons (.loc 1) (.cons (.attr (.loc 0) 46) .nil)))) (.cons (.ret (.call 21 (.cons (.idx (.attr (.loc 0) 43) (.loc 3)) (.cons (.attr (.loc 0) 42) (.cons (.loc 2) .nil))) [] .nil)) .nil))
def i_Walker_stands : FnI := { pos := [49, 60], dfl := [], kwo := [], kdf := [], star := false, nloc := 4, body := b_Walker_stands, cell := false }
def t_Walker_stands : FnT := ⟨1003, ("Walker", some "stands"), "stands", "Walker.stands", i_Walker_stands, meth 75 3, ["self", "number", "runs", "rest"], false⟩
def b_law_row : Blk := (.cons (.asg true (.nm 3) (.lst .nil)) (.cons (.fr [4] false (.bi .range (.cons (.bin .Add (.cst (.int 1)) (.call 15 (.cons (.loc 0) (.cons (.loc 1) .nil)) [] .nil)) .nil)) (.cons (.asg false (.nm 5) (.call 15 (.cons (.loc 0) (.cons (.cst (.int 6)) .nil)) [] .nil)) (.cons (.asg false (.nm 6) (.bo .Or (.cons (.cmp .Lt (.loc 5) (.cst (.int 2))) (.cons (.bo .And (.cons (.cmp .Eq (.loc 5) (.cst (.int 2))) (.cons (.cmp .Eq (.call 15 (.cons (.loc 0) (.cons (.cst (.int 3)) .nil)) [] .nil) (.cst (.int 0))) .nil))) .nil)))) (.cons (.app 3 (.ife (.loc 6) (.idx (.cst (.str "RLB")) (.loc 5)) (.bi .str (.cons (.bin .Add (.cst (.int 1)) (.call 15 (.cons (.loc 0) (.cons (.loc 2) .nil)) [] .nil)) .nil)))) .nil)))) (.cons (.ife (.bi .all (.cons (.lc (.cmp .In (.loc 7) (.cst (.str "RLB"))) [7] false (.loc 3) .nil [7]) .nil)) (.cons (.asg false (.sb (.loc 3) (.call 15 (.cons (.loc 0) (.cons (.bi .len (.cons (.loc 3) .nil)) .nil)) [] .nil)) (.bi .str (.cons (.bin .Add (.cst (.int 1)) (.call 15 (.cons (.loc 0) (.cons (.loc 2) .nil)) [] .nil)) .nil))) .nil) .nil) (.cons (.ret (.sm .join (.cst (.str " ")) (.loc 3))) .nil))))
def i_law_row : FnI := { pos := [53, 61, 62], dfl := [], kwo := [], kdf := [], star := false, nloc := 8, body := b_law_row, cell := false }
def t_law_row : FnT := ⟨10, ("_law_row", none), "_law_row", "_law_row", i_law_row, top 81, ["cup", "most", "longest", "found", "turn", "kind", "is_turn", "word"], false⟩
def b_law_start : Blk := (.cons (.asg false (.nm 1) (.call 12 (.cons (.loc 0) (.cons (.lst (.cons (.cst (.int 0)) (.cons (.cst (.int 0)) (.cons (.cst (.int 0)) (.cons (.bin .Pow (.cst (.int 10)) (.cst (.int 6))) (.cons (.bin .Sub (.bin .Pow (.cst (.int 10)) (.cst (.int 30))) (.cst (.int 9))) .nil)))))) .nil)) [] .nil)) (.cons (.ret (.tup (.cons (.bin .Add (.bin .Sub (.call 15 (.cons (.loc 0) (.cons (.cst (.int 9)) .nil)) [] .nil) (.cst (.int 4))) (.loc 1)) (.cons (.bin .Sub (.bin .Sub (.call 15 (.cons (.loc 0) (.cons (.cst (.int 9)) .nil)) [] .nil) (.cst (.int 4))) (.loc 1)) .nil)))) .nil))
def i_law_start : FnI := { pos := [53], dfl := [], kwo := [], kdf := [], star := false, nloc := 2, body := b_law_start, cell := false }
def t_law_start : FnT := ⟨11, ("_law_start", none), "_law_start", "_law_start", i_law_start, top 82, ["cup", "far"], false⟩
def b_law_pick : Blk := (.cons (.ret (.idx (.loc 1) (.call 15 (.cons (.loc 0) (.cons (.bi .len (.cons (.loc 1) .nil)) .nil)) [] .nil))) .nil)
def i_law_pick : FnI := { pos := [53, 58], dfl := [], kwo := [], kdf := [], star := false, nloc := 2, body := b_law_pick, cell := false }
def t_law_pick : FnT := ⟨12, ("_law_pick", none), "_law_pick", "_law_pick", i_law_pick, top 80, ["cup", "things"], false⟩
def b_law_some : Blk := (.cons (.ret (.call 23 (.cons (.loc 0) (.cons (.loc 1) (.cons (.loc 2) (.cons (.call 24 (.cons (.loc 0) .nil) [] .nil) .nil)))) [] .nil)) .nil)
def i_law_some : FnI := { pos := [63, 47, 64], dfl := [], kwo := [], kdf := [], star := false, nloc := 3, body := b_law_some, cell := false }
def t_law_some : FnT := ⟨13, ("_law_some", none), "_law_some", "_law_some", i_law_some, top 87, ["orders", "begin", "side"], false⟩
def b_law_steps : Blk := (.cons (.asg false (.tp (.cons (.nm 3) (.cons (.nm 4) .nil))) (.tup (.cons (.sm .index (.cst (.str "NESW")) (.loc 1)) (.cons (.lst .nil) .nil)))) (.cons (.fr [5] false (.bi .range (.cons (.bin .Add (.loc 2) (.cst (.int 1))) .nil)) (.cons (.fr [6] false (.ife (.cmp .Lt (.bi .len (.cons (.loc 4) .nil)) (.loc 2)) (.sm .split (.loc 0) (.cst (.str " "))) (.lst .nil)) (.cons (.ife (.cmp .In (.loc 6) (.cst (.str "RBL"))) (.cons (.asg false (.nm 3) (.bin .Mod (.bi .int (.cons (.bin .Add (.loc 3) (.sm .index (.cst (.str " RBL")) (.loc 6))) .nil)) (.cst (.int 4)))) .nil) (.cons (.asg false (.nm 4) (.bin .Add (.loc 4) (.lc (.idx (.cst (.str "NESW")) (.loc 3)) [7] false (.bi .range (.cons (.bi .int (.cons (.loc 6) .nil)) .nil)) .nil [7]))) .nil)) .nil)) .nil)) (.cons (.ret (.slc (.loc 4) .no (.so (.loc 2)))) .nil)))
def i_law_steps : FnI := { pos := [63, 64, 65], dfl := [], kwo := [], kdf := [], star := false, nloc := 8, body := b_law_steps, cell := false }
def t_law_steps : FnT := ⟨14, ("_law_steps", none), "_law_steps", "_law_steps", i_law_steps, top 83, ["orders", "side", "many", "look", "found", "turn", "word", "step"], false⟩
def b_law_sip : Blk := (.cons (.asg false (.sb (.loc 0) (.cst (.int 0))) (.bin .Mod (.bi .int (.cons (.bin .Add (.bin .Mult (.idx (.loc 0) (.cst (.int 0))) (.cst (.int 48271))) (.cst (.int 11))) .nil)) (.cst (.int 2147483629)))) (.cons (.ife (.cmp .Gt (.idx (.loc 0) (.cst (.int 1))) (.cst (.int 0))) (.cons (.asg false (.tp (.cons (.sb (.loc 0) (.cst (.int 1))) (.cons (.nm 2) .nil))) (.bi .divmod (.cons (.idx (.loc 0) (.cst (.int 1))) (.cons (.loc 1) .nil)))) (.cons (.ret (.loc 2)) .nil)) .nil) (.cons (.ret (.bin .Mod (.bi .int (.cons (.bin .FloorDiv (.idx (.loc 0) (.cst (.int 0))) (.cst (.int 1021))) .nil)) (.loc 1))) .nil)))
def i_law_sip : FnI := { pos := [53, 65], dfl := [], kwo := [], kdf := [], star := false, nloc := 3, body := b_law_sip, cell := false }
def t_law_sip : FnT := ⟨15, ("_law_sip", none), "_law_sip", "_law_sip", i_law_sip, top 79, ["cup", "many", "part"], false⟩
def b_law_far : Blk := (.cons (.asg false (.tp (.cons (.nm 2) (.cons (.nm 3) .nil))) (.bi .divmod (.cons (.loc 1) (.cons (.bin .Sub (.bi .len (.cons (.loc 0) .nil)) (.cst (.int 1))) .nil)))) (.cons (.asg false (.tp (.cons (.nm 4) (.cons (.nm 5) .nil))) (.idx (.loc 0) (.loc 3))) (.cons (.ret (.tup (.cons (.bin .Add (.loc 4) (.bin .Mult (.loc 2) (.bin .Sub (.idx (.idx (.loc 0) (.neg (.cst (.int 1)))) (.cst (.int 0))) (.idx (.idx (.loc 0) (.cst (.int 0))) (.cst (.int 0)))))) (.cons (.bin .Add (.loc 5) (.bin .Mult (.loc 2) (.bin .Sub (.idx (.idx (.loc 0) (.neg (.cst (.int 1)))) (.cst (.int 1))) (.idx (.idx (.loc 0) (.cst (.int 0))) (.cst (.int 1)))))) .nil)))) .nil)))
def i_law_far : FnI := { pos := [66, 39], dfl := [], kwo := [], kdf := [], star := false, nloc := 6, body := b_law_far, cell := false }
def t_law_far : FnT := ⟨16, ("_law_far", none), "_law_far", "_law_far", i_law_far, top 88, ["some", "at", "runs", "rest", "x", "y"], false⟩
def b_law_on : Blk := (.cons (.asg false (.tp (.cons (.nm 3) (.cons (.nm 4) .nil))) (.loc 0)) (.cons (.ife (.cmp .In (.loc 1) (.cst (.str "NS"))) (.cons (.ret (.tup (.cons (.loc 3) (.cons (.ife (.cmp .Eq (.loc 1) (.cst (.str "N"))) (.bin .Add (.loc 4) (.loc 2)) (.bin .Sub (.loc 4) (.loc 2))) .nil)))) .nil) .nil) (.cons (.ret (.tup (.cons (.ife (.cmp .Eq (.loc 1) (.cst (.str "E"))) (.bin .Add (.loc 3) (.loc 2)) (.bin .Sub (.loc 3) (.loc 2))) (.cons (.loc 4) .nil)))) .nil)))
def i_law_on : FnI := { pos := [54, 64, 65], dfl := [], kwo := [], kdf := [], star := false, nloc := 5, body := b_law_on, cell := false }
def t_law_on : FnT := ⟨17, ("_law_on", none), "_law_on", "_law_on", i_law_on, top 84, ["spot", "side", "many", "x", "y"], false⟩
def b_is_order : Blk := (.cons (.ret (.bo .And (.cons (.cmp .Eq (.bi .len (.cons (.loc 0) .nil)) (.cst (.int 1))) (.cons (.bo .Or (.cons (.cmp .In (.loc 0) (.glb 55)) (.cons (.cmp .In (.loc 0) (.glb 67)) .nil))) .nil)))) .nil)
def i_is_order : FnI := { pos := [68], dfl := [], kwo := [], kdf := [], star := false, nloc := 1, body := b_is_order, cell := false }
def t_is_order : FnT := ⟨18, ("is_order", none), "is_order", "is_order", i_is_order, top 28, ["word"], false⟩
def b_is_square : Blk := (.cons (.ret (.bo .And (.cons (.call 25 (.cons (.loc 0) .nil) [] .nil) (.cons (.cmp .LtE (.bi .abs (.cons (.idx (.loc 0) (.cst (.int 0))) .nil)) (.glb 69)) (.cons (.cmp .LtE (.bi .abs (.cons (.idx (.loc 0) (.cst (.int 1))) .nil)) (.glb 69)) .nil))))) .nil)
def i_is_square : FnI := { pos := [57], dfl := [], kwo := [], kdf := [], star := false, nloc := 1, body := b_is_square, cell := false }
def t_is_square : FnT := ⟨19, ("is_square", none), "is_square", "is_square", i_is_square, top 25, ["value"], false⟩
def b_ways_of : Blk := (.cons (.par [2, 3] (.cons (.lst .nil) (.cons (.sm .index (.glb 52) (.loc 1)) .nil))) (.cons (.fr [4] false (.sm .split (.loc 0) (.cst (.str " "))) (.cons (.ife (.cmp .In (.loc 4) (.glb 67)) (.cons (.asg false (.nm 3) (.bin .Mod (.bin .Add (.loc 3) (.idx (.glb 67) (.loc 4))) (.cst (.int 4)))) .nil) (.cons (.asg false (.nm 2) (.bin .Add (.loc 2) (.bin .Mult (.lst (.cons (.loc 3) .nil)) (.bi .int (.cons (.loc 4) .nil))))) .nil)) .nil)) (.cons (.ret (.tup (.cons (.loc 2) (.cons (.loc 3) .nil)))) .nil)))
def i_ways_of : FnI := { pos := [48, 40], dfl := [], kwo := [], kdf := [], star := false, nloc := 5, body := b_ways_of, cell := false }
def t_ways_of : FnT := ⟨20, ("ways_of", none), "ways_of", "ways_of", i_ways_of, top 30, ["row", "way", "found", "look", "word"], false⟩
def b_moved_by : Blk := (.cons (.ret (.tup (.cons (.bin .Add (.idx (.loc 0) (.cst (.int 0))) (.bin .Mult (.loc 2) (.idx (.loc 1) (.cst (.int 0))))) (.cons (.bin .Add (.idx (.loc 0) (.cst (.int 1))) (.bin .Mult (.loc 2) (.idx (.loc 1) (.cst (.int 1))))) .nil)))) .nil)
def i_moved_by : FnI := { pos := [70, 71, 72], dfl := [], kwo := [], kdf := [], star := false, nloc := 3, body := b_moved_by, cell := false }
def t_moved_by : FnT := ⟨21, ("moved_by", none), "moved_by", "moved_by", i_moved_by, top 33, ["square", "move", "times"], false⟩
def b_is_time : Blk := (.cons (.ret (.call 26 (.cons (.loc 0) (.cons (.cst (.int 0)) (.cons (.glb 69) .nil))) [] .nil)) .nil)
def i_is_time : FnI := { pos := [57], dfl := [], kwo := [], kdf := [], star := false, nloc := 1, body := b_is_time, cell := false }
def t_is_time : FnT := ⟨22, ("is_time", none), "is_time", "is_time", i_is_time, top 26, ["value"], false⟩
def b_law_path : Blk := (.cons (.asg true (.nm 4) (.lst (.cons (.loc 1) .nil))) (.cons (.fr [5] false (.call 14 (.cons (.loc 0) (.cons (.loc 2) (.cons (.loc 3) .nil))) [] .nil) (.cons (.app 4 (.call 17 (.cons (.idx (.loc 4) (.neg (.cst (.int 1)))) (.cons (.loc 5) (.cons (.cst (.int 1)) .nil))) [] .nil)) .nil)) (.cons (.mv [4] (.ret (.loc 4))) .nil)))
def i_law_path : FnI := { pos := [63, 47, 64, 65], dfl := [], kwo := [], kdf := [], star := false, nloc := 6, body := b_law_path, cell := false }
def t_law_path : FnT := ⟨23, ("_law_path", none), "_law_path", "_law_path", i_law_path, top 85, ["orders", "begin", "side", "many", "found", "step"], false⟩
def b_law_four : Blk := (.cons (.ret (.bin .Mult (.cst (.int 4)) (.bi .sum (.cons (.lc (.bi .int (.cons (.loc 1) .nil)) [1] false (.sm .split (.loc 0) (.cst (.str " "))) (.cons (.cmp .NotIn (.loc 1) (.cst (.str "RBL"))) .nil) [1]) .nil)))) .nil)
def i_law_four : FnI := { pos := [63], dfl := [], kwo := [], kdf := [], star := false, nloc := 2, body := b_law_four, cell := false }
def t_law_four : FnT := ⟨24, ("_law_four", none), "_law_four", "_law_four", i_law_four, top 86, ["orders", "word"], false⟩
def b_is_pair : Blk := (.cons (.ret (.bo .And (.cons (.isT (.loc 0) "tuple") (.cons (.cmp .Eq (.bi .len (.cons (.loc 0) .nil)) (.cst (.int 2))) (.cons (.call 27 (.cons (.idx (.loc 0) (.cst (.int 0))) .nil) [] .nil) (.cons (.call 27 (.cons (.idx (.loc 0) (.cst (.int 1))) .nil) [] .nil) .nil)))))) .nil)
def i_is_pair : FnI := { pos := [57], dfl := [], kwo := [], kdf := [], star := false, nloc := 1, body := b_is_pair, cell := false }
def t_is_pair : FnT := ⟨25, ("is_pair", none), "is_pair", "is_pair", i_is_pair, top 24, ["value"], false⟩
def b_is_between : Blk := (.cons (.ret (.bo .And (.cons (.call 27 (.cons (.loc 0) .nil) [] .nil) (.cons (.cmp2 .LtE .LtE (.loc 1) (.loc 0) (.loc 2)) .nil)))) .nil)
def i_is_between : FnI := { pos := [57, 73, 74], dfl := [], kwo := [], kdf := [], star := false, nloc := 3, body := b_is_between, cell := false }
def t_is_between : FnT := ⟨26, ("is_between", none), "is_between", "is_between", i_is_between, top 23, ["value", "low", "high"], false⟩
def b_is_integer : Blk := (.cons (.ret (.bo .And (.cons (.isT (.loc 0) "int") (.cons (.not (.isT (.loc 0) "bool")) .nil)))) .nil)
def i_is_integer : FnI := { pos := [57], dfl := [], kwo := [], kdf := [], star := false, nloc := 1, body := b_is_integer, cell := false }
def t_is_integer : FnT := ⟨27, ("is_integer", none), "is_integer", "is_integer", i_is_integer, top 22, ["value"], false⟩
def td : TD where
  names := (["law", "_law_right", "_law_cup", "is_row", "check_square", "is_way", "ways_round", "least_period", "positions", "check_time", "_law_row", "_law_start", "_law_pick", "_law_some", "_law_steps", "_law_sip", "_law_far", "_law_on", "is_order", "is_square", "ways_of", "moved_by", "is_time", "_law_path", "_law_four", "is_pair", "is_between", "is_integer", "Plan", "Walker"] : List Str) ++ (["__and__", "__or__", "__sub__", "__eq__", "__contains__", "__bool__", "__len__", "__getitem__", "goes", "at", "way", "script", "drift", "run", "start", "ways", "period", "begin", "row", "self", "stands", "time", "WAYS", "cup", "spot", "STEPS", "MOST_ORDERS", "value", "things", "MOVES"] : List Str) ++ (["number", "most", "longest", "orders", "side", "many", "some", "TURNS", "word", "GREATEST", "square", "move", "times", "low", "high"] : List Str)
  globs := [(69, (.int (10 ^ 30))), (56, (.int 8)), (59, (.kt [(.kt [(.int 0), (.int 1)]), (.kt [(.int 1), (.int 0)]), (.kt [(.int 0), (.int (-1))]), (.kt [(.int (-1)), (.int 0)])])), (55, (.str "123456789")), (67, .kd 67), (52, (.str "NESW"))]
  kds := [(67, [("R", (.int 1)), ("B", (.int 2)), ("L", (.int 3))])]
  fns := [t_law, t_Walker_init, t_Walker_at, t_Walker_goes, t_law_right, t_law_cup, t_is_row, t_check_square, t_is_way, t_ways_round, t_least_period, t_positions, t_check_time, t_Walker_stands, t_law_row, t_law_start, t_law_pick, t_law_some, t_law_steps, t_law_sip, t_law_far, t_law_on, t_is_order, t_is_square, t_ways_of, t_moved_by, t_is_time, t_law_path, t_law_four, t_is_pair, t_is_between, t_is_integer]
  clss := [(28, { flds := [47], init := 999 }), (29, { flds := [48, 44, 40, 45, 46, 43, 42], init := 1000 })]
  meths := [(29, 39, 1001), (29, 38, 1002), (29, 50, 1003)]
  kn := [0, 1, 2, 3, 4, 5, 6, 7, 8, 9, 10, 11, 12, 13, 14, 15, 16, 17, 18, 19, 20, 21, 22, 23, 24, 25, 26, 27, 29]
  sp := [30, 31, 32, 33, 34, 35, 36, 37]
-- law: 0
def loose : List Str := (["_wall", "__name__", "WrongValue", "InvalidRow", "InvalidSquare", "InvalidWay", "InvalidTime", "InvalidCount", "InvalidMove", "InvalidPeriod", "InvalidMarks", "InvalidParts", "MOST_ORDERS", "MOST_COUNT", "MOST_PERIOD", "MOST_MOVE", "GREATEST", "WAYS", "MOVES", "TURNS", "STEPS", "is_integer", "is_between", "is_pair", "is_square", "is_time", "is_way", "is_order", "is_row", "ways_of"] : List Str) ++ (["ways_round", "least_period", "moved_by", "divisor", "check_square", "check_time", "check_count", "check_number", "MOST_PARTS", "Stretch", "Spots", "one_square", "place_of", "spots_beside", "inverse_of", "spots_along", "meetings", "bounds_of", "upward", "spots_of", "least_common", "Cover", "kept_part", "combined", "is_part", "part_of", "check_parts", "set_of", "Known", "Squares"] : List Str) ++ (["Told", "check_numbers", "are_marks", "in_order", "shortest", "periodic", "single", "chosen", "Times", "Plan", "positions", "Walker", "add_to", "_law_cup", "_law_sip", "_law_pick", "_law_row", "_law_start", "_law_steps", "_law_on", "_law_path", "_law_four", "_law_some", "_law_far", "_law_right"] : List Str)
-- the law stands at 90 of 91
theorem td_ok : td.ok = true := by decide +kernel
abbrev R : PySem.W.OpenRow := PySem.W.OpenLaw.row PySem.Challenge.rw_evertreads_k12_whole_walks_step_by_step
abbrev hk : PySem.W.Hook := td.hook 4
def ob (s : PySem.W.SharedT) : AlX := td.obsG 4 (HandSHeadRun.getT s)
theorem ob_eq (s : PySem.W.SharedT) : ob s = hk.obs s.abs := TD.obs_eq (HandSHeadRun.getT_eq s)
end K12

set_option Elab.async false
set_option linter.all false
set_option maxRecDepth 100000
set_option maxHeartbeats 0
namespace K12
open PySem L2 PySem.Spec PyProof.Rows Wk
theorem run_f (w : World) : HandSHeadRun.RunEq R (PySem.W.view R.prog [90]) hk ob 20000 loose (w.withFollow "special-get-raises" false) := by
  intro os
  kernel_rfl
theorem run_t (w : World) : HandSHeadRun.RunEq R (PySem.W.view R.prog [90]) hk ob 20000 loose (w.withFollow "special-get-raises" true) := by
  intro os
  kernel_rfl
theorem run (w : World) : HandSHeadRun.RunEq R (PySem.W.view R.prog [90]) hk ob 20000 loose w := PySem.W.byRow2 "special-get-raises" (P := fun w => HandSHeadRun.RunEq R (PySem.W.view R.prog [90]) hk ob 20000 loose w) run_f run_t w
end K12

set_option Elab.async false
set_option linter.all false
set_option maxRecDepth 100000
set_option maxHeartbeats 410000
namespace K12
open PySem L2 Wk
theorem call_fn {n k : Nat} {ds : List D} {kws : List (Nat × D)} {s : Sto} {fi : FnI} (h1 : td.it.cls k = none) (h2 : td.it.fn k = some fi) : callI td.it (n + 1) k ds kws s = callF td.it (callI td.it n) fi ds kws s := by
  show (match td.it.cls k with | some ci => _ | none => _) = _
  rw [h1]
  dsimp only
  rw [h2]
/-- a call with all parameters given -/
theorem callF_all {T : IT} {cl : CallT} {fi : FnI} {ds : List D} {s : Sto} (h : ds.length = fi.pos.length) : callF T cl fi ds [] s = retO T fi (exB T cl fi.body (startE fi.nloc ds) s) := by
  unfold callF bindP
  have e : fi.pos.drop ds.length = [] := by rw [h, List.drop_length]
  simp only [h, Nat.le_refl, decide_true, List.all_nil, Bool.and_true, List.map_nil, List.nodup_nil, if_true, e, List.drop_length, bindGo, Option.map_some, List.append_nil]
theorem moved_by_ok {n : Nat} {a b c d t : Int} {s : Sto} (h1 : mulOk t c = true) (h2 : mulOk t d = true) : callI td.it (n + 1) 21 [.tup [.int a, .int b], .tup [.int c, .int d], .int t] [] s = .ok (.tup [.int (a + t * c), .int (b + t * d)]) s := by
  rw [call_fn (fi := i_moved_by) rfl rfl, callF_all rfl]
  simp [i_moved_by, b_moved_by, startE, exB, exS, evX, evDs, evW, asD, asB, slotB, slotD, frz, RS.ofO, RS.bind, RS.toO, O.seq, retO, binV, clsD, binD, idxV, idxD, L2.atI, L2.ixN, h1, h2, szOk]
theorem is_integer_ok {n : Nat} {a : Int} {s : Sto} : callI td.it (n + 1) 27 [.int a] [] s = .ok (.bl true) s := by
  rw [call_fn (fi := i_is_integer) rfl rfl, callF_all rfl]
  simp [i_is_integer, b_is_integer, startE, exB, exS, evX, evDs, evBo, neu, evW, asD, asB, slotB, slotD, frz, RS.ofO, RS.bind, RS.toO, O.seq, retO, isTyD]
theorem is_between_ok {n : Nat} {a b c : Int} {s : Sto} : callI td.it (n + 2) 26 [.int a, .int b, .int c] [] s = .ok (.bl (decide (b ≤ a) && decide (a ≤ c))) s := by
  rw [call_fn (fi := i_is_between) rfl rfl, callF_all rfl]
  simp [i_is_between, b_is_between, startE, exB, exS, evX, evDs, evBo, neu, evW, asD, asB, slotB, slotD, frz, RS.ofO, RS.bind, RS.toO, O.seq, retO, is_integer_ok, cmpD]
  by_cases h : b ≤ a <;> simp [h]
theorem is_time_ok {n : Nat} {a : Int} {s : Sto} : callI td.it (n + 3) 22 [.int a] [] s = .ok (.bl (decide (0 ≤ a) && decide (a ≤ 10 ^ 30))) s := by
  rw [call_fn (fi := i_is_time) rfl rfl, callF_all rfl]
  have g : td.it.glob 69 = some (.int (10 ^ 30)) := rfl
  simp [i_is_time, b_is_time, startE, exB, exS, evX, evDs, evW, asD, asB, slotB, slotD, frz, RS.ofO, RS.bind, RS.toO, O.seq, retO, g, is_between_ok]
theorem check_time_ok {n : Nat} {a : Int} {s : Sto} (h : 0 ≤ a) (h' : a ≤ 10 ^ 30) : callI td.it (n + 4) 9 [.int a] [] s = .ok .non s := by
  rw [call_fn (fi := i_check_time) rfl rfl, callF_all rfl]
  have h2 : ¬ (1000000000000000000000000000000 < a) := by omega
  simp [h2, i_check_time, b_check_time, startE, exB, exS, evX, evDs, evW, asD, asB, slotB, slotD, frz, RS.ofO, RS.bind, RS.toO, O.seq, retO, is_time_ok, truthV, truthD, clsD, h, h']
/-- a walker, as a tree -/
def wk (row : Str) (start : D) (way : Str) (ways : List Int) (run : List (Int × Int)) (dr : Int × Int) : D := .obj 29 [.str row, start, .str way, .lst (ways.map .int), .int ways.length, .lst (run.map fun p => .tup [.int p.1, .int p.2]), .tup [.int dr.1, .int dr.2]]
theorem stands_ok {n : Nat} {row way : Str} {start : D} {ways : List Int} {run : List (Int × Int)} {dr : Int × Int} {t : Int} {s : Sto} {p : Int × Int} (h0 : 0 < ways.length) (h1 : ways.length < 1073741824) (hp : run[(t % (ways.length : Int)).toNat]? = some p)
    (m1 : mulOk (t / (ways.length : Int)) dr.1 = true) (m2 : mulOk (t / (ways.length : Int)) dr.2 = true) :
    callI td.it (n + 2) 1003 [wk row start way ways run dr, .int t] [] s = .ok (.tup [.int (p.1 + t / (ways.length : Int) * dr.1), .int (p.2 + t / (ways.length : Int) * dr.2)]) s := by
  rw [call_fn (fi := i_Walker_stands) rfl rfl, callF_all rfl]
  have c1 : td.it.cls 29 = some { flds := [48, 44, 40, 45, 46, 43, 42], init := 1000 } := rfl
  have c2 : ∀ f, td.it.prop 29 f = none := fun _ => rfl
  have b1 : (0 : Int) < (ways.length : Int) := by omega
  have b2 : (ways.length : Int) < 1073741824 := by omega
  have at_ : L2.atI (run.map fun p => D.tup [.int p.1, .int p.2]) (t % (ways.length : Int)) = some (.tup [.int p.1, .int p.2]) := by
    have e0 : 0 ≤ t % (ways.length : Int) := Int.emod_nonneg _ (by omega)
    have hl := (List.getElem?_eq_some_iff.mp hp).1
    unfold L2.atI L2.ixN
    rw [if_pos e0, if_pos (by rw [List.length_map]; omega)]
    simp [hp]
  simp [wk, i_Walker_stands, b_Walker_stands, startE, exB, exS, evX, evDs, evBs, evW, asD, asB, slotB, slotD, frz, RS.ofO, RS.bind, RS.toO, O.seq, retO, plainBi, biD, attrV, ownOf, ownFld, c1, c2, findN, b1, b2, tgA, tgAs, tgsLen, idxV, idxD, at_, h0, h1, moved_by_ok m1 m2]
theorem at_ok {n : Nat} {row way : Str} {start : D} {ways : List Int} {run : List (Int × Int)} {dr : Int × Int} {t : Int} {s : Sto} {p : Int × Int} (h0 : 0 < ways.length) (h1 : ways.length < 1073741824) (hp : run[(t % (ways.length : Int)).toNat]? = some p)
    (m1 : mulOk (t / (ways.length : Int)) dr.1 = true) (m2 : mulOk (t / (ways.length : Int)) dr.2 = true) (t0 : 0 ≤ t) (t1 : t ≤ 10 ^ 30) :
    callI td.it (n + 5) 1001 [wk row start way ways run dr, .int t] [] s = .ok (.tup [.int (p.1 + t / (ways.length : Int) * dr.1), .int (p.2 + t / (ways.length : Int) * dr.2)]) s := by
  rw [call_fn (fi := i_Walker_at) rfl rfl, callF_all rfl]
  have hm : td.it.meth 29 50 = some 1003 := rfl
  have hs := stands_ok (n := n + 2) (row := row) (way := way) (start := start) (s := s) h0 h1 hp m1 m2
  unfold wk at hs ⊢
  simp [i_Walker_at, b_Walker_at, startE, exB, exS, evX, evDs, evW, asD, asB, slotB, slotD, frz, RS.ofO, RS.bind, RS.toO, O.seq, retO, methD, clsD, hm, check_time_ok t0 t1, hs]
theorem goes_ok {n : Nat} {row way : Str} {start : D} {ways : List Int} {run : List (Int × Int)} {dr : Int × Int} {t : Int} {s : Sto} {i : Int} {w : Str} (h0 : 0 < ways.length) (hi : ways[(t % (ways.length : Int)).toNat]? = some i) (hw : idxD td.it (.str "NESW") (.int i) = some (.str w)) (t0 : 0 ≤ t) (t1 : t ≤ 10 ^ 30) :
    callI td.it (n + 5) 1002 [wk row start way ways run dr, .int t] [] s = .ok (.str w) s := by
  rw [call_fn (fi := i_Walker_goes) rfl rfl, callF_all rfl]
  have c1 : td.it.cls 29 = some { flds := [48, 44, 40, 45, 46, 43, 42], init := 1000 } := rfl
  have c2 : ∀ f, td.it.prop 29 f = none := fun _ => rfl
  have g : td.it.glob 52 = some (.str "NESW") := rfl
  have b1 : (ways.length : Int) ≠ 0 := by omega
  have b2 : ways ≠ [] := by rintro rfl; simp at h0
  have ef : t.fmod (ways.length : Int) = t % (ways.length : Int) := Int.fmod_eq_emod_of_nonneg _ (by omega)
  have at_ : L2.atI (ways.map D.int) (t % (ways.length : Int)) = some (.int i) := by
    have e0 : 0 ≤ t % (ways.length : Int) := Int.emod_nonneg _ (by omega)
    have hl := (List.getElem?_eq_some_iff.mp hi).1
    unfold L2.atI L2.ixN
    rw [if_pos e0, if_pos (by rw [List.length_map]; omega)]
    simp [hi]
  have e1 : idxD td.it (.lst (ways.map D.int)) (.int (t % (ways.length : Int))) = some (.int i) := at_
  simp [wk, i_Walker_goes, b_Walker_goes, startE, exB, exS, evX, evDs, evBs, evW, asD, asB, slotB, slotD, frz, RS.ofO, RS.bind, RS.toO, O.seq, retO, plainBi, biD, binV, clsD, binD, attrV, ownOf, ownFld, c1, c2, findN, b1, b2, ef, g, idxV, e1, hw, check_time_ok t0 t1]
end K12

set_option Elab.async false
set_option linter.all false
set_option maxRecDepth 100000
set_option maxHeartbeats 410000
namespace K12
open PySem L2 Wk
theorem sip_ok {n k : Nat} {a b m : Int} {s : Sto} (hs : s[k]? = some (.lst [.int a, .int b])) (h0 : 0 < m) (h1 : m < 1073741824) : ∃ r a' b' : Int, 0 ≤ r ∧ r < m ∧ callI td.it (n + 1) 15 [.ref k, .int m] [] s = .ok (.int r) (s.set k (.lst [.int a', .int b'])) := by
  have hk : k < s.length := (List.getElem?_eq_some_iff.mp hs).1
  have hq : ∀ o, (s.set k o)[k]? = some o := fun o => List.getElem?_set_self hk
  have m1 : mulOk a 48271 = true := by unfold mulOk; simp
  have i0 : L2.ixN 2 0 = some 0 := rfl
  have i1 : L2.ixN 2 1 = some 1 := rfl
  have ne : m ≠ 0 := by omega
  by_cases hb : 0 < b
  · refine ⟨b % m, (a * 48271 + 11).fmod 2147483629, b / m, Int.emod_nonneg _ ne, Int.emod_lt_of_pos _ h0, ?_⟩
    rw [call_fn (fi := i_law_sip) rfl rfl, callF_all rfl]
    simp [i_law_sip, b_law_sip, startE, exB, exS, evX, evDs, evBs, evW, asD, asB, slotB, slotD, frz, RS.ofO, RS.bind, RS.toO, O.seq, retO, plainBi, biD, binV, clsD, binD, idxV, idxD, L2.atI, tgA, tgAs, tgsLen, hs, hq, List.set_set, i0, i1, m1, cmpV, cmpD, truthV, truthD, hb, h0, h1]
  · refine ⟨((a * 48271 + 11).fmod 2147483629).fdiv 1021 % m, (a * 48271 + 11).fmod 2147483629, b, Int.emod_nonneg _ ne, Int.emod_lt_of_pos _ h0, ?_⟩
    rw [call_fn (fi := i_law_sip) rfl rfl, callF_all rfl]
    have dk : divOk 1021 = true := by decide
    have dm : divOk m = true := by unfold divOk; simp; omega
    have ef : ∀ x : Int, x.fmod m = x % m := fun x => Int.fmod_eq_emod_of_nonneg _ (by omega)
    simp [i_law_sip, b_law_sip, startE, exB, exS, evX, evDs, evBs, evW, asD, asB, slotB, slotD, frz, RS.ofO, RS.bind, RS.toO, O.seq, retO, plainBi, biD, binV, clsD, binD, idxV, idxD, L2.atI, tgA, tgAs, tgsLen, hs, hq, List.set_set, i0, i1, m1, cmpV, cmpD, truthV, truthD, hb, h0, h1, ef, ne, dk, dm]
end K12

set_option Elab.async false
set_option linter.all false
set_option maxRecDepth 100000
set_option maxHeartbeats 410000
namespace K12
open PySem L2 Wk
/-- the cup stands at k -/
def Cup (k : Nat) (s : Sto) : Prop := ∃ a b : Int, s[k]? = some (.lst [.int a, .int b])
/-- only the cup moved -/
def Upd (k : Nat) (s s' : Sto) : Prop := ∃ a b : Int, s' = s.set k (.lst [.int a, .int b])
theorem Upd.cup {k : Nat} {s s' : Sto} (h : Cup k s) (u : Upd k s s') : Cup k s' := by
  obtain ⟨a, b, h⟩ := h
  obtain ⟨c, d, rfl⟩ := u
  exact ⟨c, d, List.getElem?_set_self (List.getElem?_eq_some_iff.mp h).1⟩
theorem Upd.trans {k : Nat} {s s' s'' : Sto} (u : Upd k s s') (v : Upd k s' s'') : Upd k s s'' := by
  obtain ⟨a, b, rfl⟩ := u
  obtain ⟨c, d, rfl⟩ := v
  exact ⟨c, d, by rw [List.set_set]⟩
theorem Upd.refl {k : Nat} {s : Sto} (h : Cup k s) : Upd k s s := by
  obtain ⟨a, b, h⟩ := h
  refine ⟨a, b, ?_⟩
  apply List.ext_getElem?
  intro i
  by_cases e : k = i
  · subst e
    rw [h, List.getElem?_set_self (List.getElem?_eq_some_iff.mp h).1]
  · rw [List.getElem?_set_ne e]
theorem Upd.len {k : Nat} {s s' : Sto} (u : Upd k s s') : s'.length = s.length := by
  obtain ⟨a, b, rfl⟩ := u
  exact List.length_set
theorem Upd.other {k i : Nat} {s s' : Sto} (u : Upd k s s') (h : i ≠ k) : s'[i]? = s[i]? := by
  obtain ⟨a, b, rfl⟩ := u
  exact List.getElem?_set_ne (fun e => h e.symm)
theorem sip {n k : Nat} {m : Int} {s : Sto} (h : Cup k s) (h0 : 0 < m) (h1 : m < 1073741824) : ∃ r s', 0 ≤ r ∧ r < m ∧ Upd k s s' ∧ callI td.it (n + 1) 15 [.ref k, .int m] [] s = .ok (.int r) s' := by
  obtain ⟨a, b, h⟩ := h
  obtain ⟨r, a', b', p, q, e⟩ := sip_ok (n := n) h h0 h1
  exact ⟨r, _, p, q, ⟨a', b', rfl⟩, e⟩
theorem pick_ok {n k : Nat} {ds : List D} {s : Sto} (h : Cup k s) (h0 : 0 < ds.length) (h1 : ds.length < 1073741824) : ∃ d s', d ∈ ds ∧ Upd k s s' ∧ callI td.it (n + 2) 12 [.ref k, .lst ds] [] s = .ok d s' := by
  obtain ⟨r, s', p, q, u, e⟩ := sip (n := n) (m := ds.length) h (by omega) (by omega)
  have ix : L2.ixN ds.length r = some r.toNat := by unfold L2.ixN; simp [p, q]
  have lt : r.toNat < ds.length := by omega
  refine ⟨ds[r.toNat], s', List.getElem_mem _, u, ?_⟩
  rw [call_fn (fi := i_law_pick) rfl rfl, callF_all rfl]
  simp [i_law_pick, b_law_pick, startE, exB, exS, evX, evDs, evBs, evW, asD, asB, slotB, slotD, frz, RS.ofO, RS.bind, RS.toO, O.seq, retO, plainBi, biD, lenD, e, idxV, idxD, L2.atI, ix, lt]
end K12

set_option Elab.async false
set_option linter.all false
set_option maxRecDepth 100000
set_option maxHeartbeats 410000
namespace K12
open PySem L2 Wk
theorem start_ok {n k : Nat} {s : Sto} (h : Cup k s) : ∃ x y s', -(10 ^ 30 - 5) ≤ x ∧ x ≤ 10 ^ 30 - 5 ∧ -(10 ^ 30 - 5) ≤ y ∧ y ≤ 10 ^ 30 - 5 ∧ Upd k s s' ∧ callI td.it (n + 3) 11 [.ref k] [] s = .ok (.tup [.int x, .int y]) s' := by
  obtain ⟨d, s1, md, u1, e1⟩ := pick_ok (n := n) (ds := [.int 0, .int 0, .int 0, .int (10 ^ 6), .int (10 ^ 30 - 9)]) h (by simp) (by simp)
  obtain ⟨v, rfl, v0, v1⟩ : ∃ v : Int, d = .int v ∧ 0 ≤ v ∧ v ≤ 10 ^ 30 - 9 := by
    simp at md
    rcases md with rfl | rfl | rfl
    · exact ⟨0, rfl, by omega, by omega⟩
    · exact ⟨_, rfl, by omega, by omega⟩
    · exact ⟨_, rfl, by omega, by omega⟩
  obtain ⟨p, s2, p0, p1, u2, e2⟩ := sip (n := n + 1) (m := 9) (u1.cup h) (by omega) (by omega)
  obtain ⟨q, s3, q0, q1, u3, e3⟩ := sip (n := n + 1) (m := 9) (u2.cup (u1.cup h)) (by omega) (by omega)
  refine ⟨p - 4 + v, q - 4 - v, s3, by omega, by omega, by omega, by omega, (u1.trans u2).trans u3, ?_⟩
  rw [call_fn (fi := i_law_start) rfl rfl, callF_all rfl]
  simp only [Int.reducePow, Int.reduceSub] at e1
  have z5 : szOk 5 = true := by decide
  have z2 : szOk 2 = true := by decide
  simp [i_law_start, b_law_start, startE, exB, exS, evX, evDs, evBs, evW, asD, asB, slotB, slotD, frz, RS.ofO, RS.bind, RS.toO, O.seq, retO, plainBi, biD, binV, clsD, binD, z5, z2, treeO, lookO, tgA, e1, e2, e3]
end K12

set_option Elab.async false
set_option linter.all false
set_option maxRecDepth 100000
set_option maxHeartbeats 410000
namespace K12
open PySem L2 Wk
theorem eqD_int (a b : Int) : eqD (.int a) (.int b) = some (decide (a = b)) := by
  unfold eqD
  simp [toPy, SeqAt.shaped, PyData.eqv, PyData.canLay0, PyData.depth]
  rfl
theorem is_pair_ok {n : Nat} {a b : Int} {s : Sto} : callI td.it (n + 2) 25 [.tup [.int a, .int b]] [] s = .ok (.bl true) s := by
  rw [call_fn (fi := i_is_pair) rfl rfl, callF_all rfl]
  simp [i_is_pair, b_is_pair, startE, exB, exS, evX, evDs, evBs, evBo, neu, evW, asD, asB, slotB, slotD, frz, RS.ofO, RS.bind, RS.toO, O.seq, retO, plainBi, biD, lenD, binV, clsD, binD, idxV, idxD, L2.atI, L2.ixN, tgA, tgAs, tgsLen, cmpV, cmpD, truthV, truthD, isTyD, inD, eqD_int, is_integer_ok]
theorem is_square_ok {n : Nat} {a b : Int} {s : Sto} (h1 : -10 ^ 30 ≤ a) (h2 : a ≤ 10 ^ 30) (h3 : -10 ^ 30 ≤ b) (h4 : b ≤ 10 ^ 30) : callI td.it (n + 3) 19 [.tup [.int a, .int b]] [] s = .ok (.bl true) s := by
  have g : td.it.glob 69 = some (.int (10 ^ 30)) := rfl
  have p1 : (if a < 0 then -a else a) ≤ 10 ^ 30 := by split <;> omega
  have p2 : (if b < 0 then -b else b) ≤ 10 ^ 30 := by split <;> omega
  simp only [Int.reducePow] at p1 p2
  rw [call_fn (fi := i_is_square) rfl rfl, callF_all rfl]
  simp [i_is_square, b_is_square, startE, exB, exS, evX, evDs, evBs, evBo, neu, evW, asD, asB, slotB, slotD, frz, RS.ofO, RS.bind, RS.toO, O.seq, retO, plainBi, biD, lenD, binV, clsD, binD, idxV, idxD, L2.atI, L2.ixN, tgA, tgAs, tgsLen, cmpV, cmpD, truthV, truthD, isTyD, inD, eqD_int, is_pair_ok, g, p1, p2]
theorem is_way_ok {n : Nat} {x : Str} {s : Sto} (h : x ∈ (["N", "E", "S", "W"] : List Str)) : callI td.it (n + 1) 5 [.str x] [] s = .ok (.bl true) s := by
  have g : td.it.glob 52 = some (.str "NESW") := rfl
  have w1 : ∀ x ∈ (["N", "E", "S", "W"] : List Str), lenD (.str x) = some 1 := by decide +kernel
  have w2 : ∀ x ∈ (["N", "E", "S", "W"] : List Str), inD td.it (.str x) (.str "NESW") = some true := by decide +kernel
  replace w1 := w1 x h
  replace w2 := w2 x h
  rw [call_fn (fi := i_is_way) rfl rfl, callF_all rfl]
  simp [i_is_way, b_is_way, startE, exB, exS, evX, evDs, evBs, evBo, neu, evW, asD, asB, slotB, slotD, frz, RS.ofO, RS.bind, RS.toO, O.seq, retO, plainBi, biD, clsD, cmpV, cmpD, truthD, isTyD, eqD_int, g, w1, w2]
end K12

set_option Elab.async false
set_option linter.all false
set_option maxRecDepth 100000
set_option maxHeartbeats 410000
namespace K12
open PySem L2 Wk
theorem check_square_ok {n : Nat} {a b : Int} {s : Sto} (h1 : -10 ^ 30 ≤ a) (h2 : a ≤ 10 ^ 30) (h3 : -10 ^ 30 ≤ b) (h4 : b ≤ 10 ^ 30) : callI td.it (n + 4) 4 [.tup [.int a, .int b]] [] s = .ok .non s := by
  have z2 : szOk 2 = true := by decide
  have e := is_square_ok (n := n) (s := s) h1 h2 h3 h4
  rw [call_fn (fi := i_check_square) rfl rfl, callF_all rfl]
  simp [i_check_square, b_check_square, startE, exB, exS, evX, evDs, evBs, evBo, neu, evW, asD, asB, slotB, slotD, frz, RS.ofO, RS.bind, RS.toO, O.seq, retO, plainBi, biD, binV, clsD, binD, idxV, idxD, L2.atI, L2.ixN, tgA, tgAs, tgsLen, cmpV, cmpD, truthV, truthD, isTyD, eqD_int, z2, e]
/-- a step of the law -/
def onP (x y : Int) (d : Str) (m : Int) : Int × Int := if d = "N" then (x, y + m) else if d = "S" then (x, y - m) else if d = "E" then (x + m, y) else (x - m, y)
theorem on_ok {n : Nat} {x y m : Int} {d : Str} {s : Sto} (h : d ∈ (["N", "E", "S", "W"] : List Str)) : callI td.it (n + 1) 17 [.tup [.int x, .int y], .str d, .int m] [] s = .ok (.tup [.int (onP x y d m).1, .int (onP x y d m).2]) s := by
  have z2 : szOk 2 = true := by decide
  have w : ∀ x ∈ (["N", "E", "S", "W"] : List Str), inD td.it (.str x) (.str "NS") = some (decide (x = "N" ∨ x = "S")) ∧ (¬ (x = "N" ∨ x = "S") → x ≠ "N" ∧ x ≠ "S") := by decide +kernel
  have v : ∀ x ∈ (["N", "E", "S", "W"] : List Str), eqD (.str x) (.str "N") = some (decide (x = "N")) ∧ eqD (.str x) (.str "E") = some (decide (x = "E")) := by decide +kernel
  obtain ⟨w1, w2⟩ := w d h
  obtain ⟨v1, v2⟩ := v d h
  rw [call_fn (fi := i_law_on) rfl rfl, callF_all rfl]
  simp [i_law_on, b_law_on, startE, exB, exS, evX, evDs, evBs, evBo, neu, evW, asD, asB, slotB, slotD, frz, RS.ofO, RS.bind, RS.toO, O.seq, retO, plainBi, biD, binV, clsD, binD, idxV, idxD, L2.atI, L2.ixN, tgA, tgAs, tgsLen, cmpV, cmpD, truthV, truthD, isTyD, eqD_int, z2, w1, v1, v2]
  unfold onP
  by_cases hN : d = "N"
  · simp [hN, z2]
  · by_cases hS : d = "S"
    · have q : ¬ (Str.ofString "S" = Str.ofString "N") := by decide
      simp [hN, hS, z2, q]
    · rcases Classical.em (d = "E") with hE | hE
      · have p1 : (d = Str.ofString "E") = True := eq_true hE
        rw [show decide (d = Str.ofString "E") = true from decide_eq_true hE] at v2
        simp only [hN, hS, p1, z2, v1, v2] 
        simp [hN, hS, p1, z2, v1, v2]
      · simp [hN, hS, hE, z2, v1, v2]
end K12

set_option Elab.async false
set_option linter.all false
set_option maxRecDepth 100000
set_option maxHeartbeats 410000
namespace K12
open PySem L2 Wk
theorem far_ok {n L : Nat} {ds : List D} {p0 p1 q0 q1 l0 l1 a : Int} {s : Sto} (hL : ds.length = L + 1) (l0' : 0 < L) (l1' : L < 1000000) (ha : L2.atI ds (a % (L : Int)) = some (.tup [.int q0, .int q1])) (hf : L2.atI ds 0 = some (.tup [.int p0, .int p1])) (hl : L2.atI ds (-1) = some (.tup [.int l0, .int l1])) (m0 : mulOk (a / (L : Int)) (l0 - p0) = true) (m1 : mulOk (a / (L : Int)) (l1 - p1) = true) : callI td.it (n + 1) 16 [.lst ds, .int a] [] s = .ok (.tup [.int (q0 + a / L * (l0 - p0)), .int (q1 + a / L * (l1 - p1))]) s := by
  have z2 : szOk 2 = true := by decide
  have zl : lenD (.lst ds) = some (L + 1) := by
    unfold lenD
    have : szOk (L + 1) = true := by unfold szOk; simp; omega
    simp [hL, this]
  have t0 : ∀ u v : D, L2.atI [u, v] 0 = some u := fun u v => rfl
  have t1 : ∀ u v : D, L2.atI [u, v] 1 = some v := fun u v => rfl
  have c0 : 0 < (L : Int) := by omega
  have c1 : (L : Int) < 1073741824 := by omega
  have c2 : (L : Int) + 1 - 1 = L := by omega
  rw [call_fn (fi := i_law_far) rfl rfl, callF_all rfl]
  simp [i_law_far, b_law_far, startE, exB, exS, evX, evDs, evBs, evBo, neu, evW, asD, asB, slotB, slotD, frz, RS.ofO, RS.bind, RS.toO, O.seq, retO, plainBi, biD, binV, clsD, binD, idxV, idxD, tgA, tgAs, tgsLen, z2, m0, m1, zl, t0, t1, c0, c1, l0', c2, ha, hf, hl]
end K12

set_option Elab.async false
set_option linter.all false
set_option maxRecDepth 100000
set_option maxHeartbeats 410000
namespace K12
open PySem L2 Wk
/-- the orders of a row -/
def ordL : List Str := ["1", "2", "3", "4", "5", "6", "7", "8", "9", "R", "L", "B"]
theorem is_order_ok {n : Nat} {x : Str} {s : Sto} (h : x ∈ ordL) : callI td.it (n + 1) 18 [.str x] [] s = .ok (.bl true) s := by
  have g : td.it.glob 55 = some (.str "123456789") := rfl
  have g' : td.it.glob 67 = some (.kd 67) := rfl
  have w : ∀ x ∈ ordL, lenD (.str x) = some 1 ∧ ∃ b : Bool, inD td.it (.str x) (.str "123456789") = some b ∧ (b = false → inD td.it (.str x) (.kd 67) = some true) := by
    have : ∀ x ∈ ordL, lenD (.str x) = some 1 ∧ (inD td.it (.str x) (.str "123456789") = some true ∨ (inD td.it (.str x) (.str "123456789") = some false ∧ inD td.it (.str x) (.kd 67) = some true)) := by decide +kernel
    intro x hx
    obtain ⟨a, b | ⟨b, c⟩⟩ := this x hx
    · exact ⟨a, true, b, by simp⟩
    · exact ⟨a, false, b, fun _ => c⟩
  obtain ⟨w1, b, w2, w3⟩ := w x h
  rw [call_fn (fi := i_is_order) rfl rfl, callF_all rfl]
  cases b
  · have w4 := w3 rfl
    simp [i_is_order, b_is_order, startE, exB, exS, evX, evDs, evBs, evBo, neu, evW, asD, asB, slotB, slotD, frz, RS.ofO, RS.bind, RS.toO, O.seq, retO, plainBi, biD, clsD, cmpV, cmpD, truthD, eqD_int, g, g', w1, w2, w4]
  · simp [i_is_order, b_is_order, startE, exB, exS, evX, evDs, evBs, evBo, neu, evW, asD, asB, slotB, slotD, frz, RS.ofO, RS.bind, RS.toO, O.seq, retO, plainBi, biD, clsD, cmpV, cmpD, truthD, eqD_int, g, g', w1, w2]
end K12

set_option Elab.async false
set_option linter.all false
set_option maxRecDepth 100000
namespace K12
open PySem L2 Wk
theorem lcGo_pure {step : D → Sto → RS (Option D)} {f : D → Option D} {s : Sto} : ∀ (ds acc : List D), (∀ d ∈ ds, step d s = .ok (f d) s) → lcGo step ds s acc = .ok (acc ++ ds.filterMap f) s
  | [], acc, _ => by simp [lcGo]
  | d :: ds, acc, h => by
    have h1 := h d List.mem_cons_self
    have ih := fun acc => lcGo_pure (step := step) (f := f) (s := s) ds acc (fun d hd => h d (List.mem_cons_of_mem _ hd))
    unfold lcGo
    rw [h1]
    cases e : f d with
    | none => simp [ih, e]
    | some y => simp [ih, e, List.append_assoc]
end K12

set_option Elab.async false
set_option linter.all false
set_option maxRecDepth 100000
namespace K12
open PySem L2 Wk
theorem split_ords {ws : List Str} (h0 : ws ≠ []) (h : ∀ w ∈ ws, w ∈ ordL) : Txt.split (Txt.join (Str.ofString " ") ws) (Str.ofString " ") = ws := by
  have q : ∀ w ∈ ordL, 32 ∉ TL.tl w := by decide +kernel
  exact TL.split_join (s := 32) (S := []) (by decide +kernel) (by decide +kernel) h0 fun p hp => q p (h p hp)
end K12

set_option Elab.async false
set_option linter.all false
set_option maxRecDepth 100000
namespace K12
open PySem L2 Wk
theorem lc_val {T : IT} {cl : CallT} {el it : Ex} {ifs : Exs} {t vs : List Nat} {tp : Bool} {e : Wk.Env} {s : Sto} {ds : List D} {f : D → Option D} (h1 : (evX T cl it e s).j = .ok ds s) (h2 : szOk ds.length = true) (h3 : noOwn e vs = true) (h4 : ∀ d ∈ ds, lcStep (fun e s => evTs T cl .And ifs e s) (fun e s => asD T (evX T cl el e s).v) t tp (wipeE e vs) d s = .ok (f d) s) : (evX T cl (.lc el t tp it ifs vs) e s).v = .ok (.fr (.lst (ds.filterMap f))) s := by
  simp only [evX, evW, h1, RS.bind, h2, h3, Bool.and_self, if_true, lcGo_pure ds [] h4, List.nil_append]
end K12

set_option Elab.async false
set_option linter.all false
set_option maxRecDepth 100000
set_option maxHeartbeats 410000
namespace K12
open PySem L2 Wk
/-- the orders that are steps -/
def stepL : List Str := ["1", "2", "3", "4", "5", "6", "7", "8", "9"]
theorem blsD_map {α : Type} (f : α → Bool) : ∀ ws : List α, blsD (ws.map fun w => D.bl (f w)) = some (ws.map f)
  | [] => rfl
  | w :: ws => by simp [blsD, blsD_map f ws]
theorem fm_some {α β : Type} (f : α → β) : ∀ ws : List α, (ws.filterMap fun w => some (f w)) = ws.map f
  | [] => rfl
  | w :: ws => by simp
theorem is_row_ok {n : Nat} {x : Str} {ws : List Str} {s : Sto} (hs : smD .split x (.str " ") = some (.fr (.lst (ws.map .str)))) (h : ∀ w ∈ ws, w ∈ ordL) (hl : ws.length ≤ 8) (hw : ∃ w ∈ ws, w ∈ stepL) : callI td.it (n + 2) 3 [.str x] [] s = .ok (.bl true) s := by
  have g : td.it.glob 55 = some (.str "123456789") := rfl
  have g' : td.it.glob 56 = some (.int 8) := rfl
  have zm : szOk (ws.map D.str).length = true := by unfold szOk; simp; omega
  have q : ∀ w ∈ ordL, inD td.it (.str w) (.str "123456789") = some (decide (w ∈ stepL)) := by decide +kernel
  have L1 := lc_val (T := td.it) (cl := callI td.it (n + 1)) (el := .call 18 (.cons (.loc 2) .nil) [] .nil) (it := .loc 1) (ifs := .nil) (t := [2]) (vs := [2]) (tp := false) (e := [some (.val (.str x)), some (.val (.lst (ws.map .str))), none]) (s := s) (ds := ws.map .str) (f := fun _ => some (.bl true))
    (by simp [evX, evW, asB, slotB, RS.ofO, RS.bind, itemsD]) zm rfl
    (by intro d hd; obtain ⟨w, hw, rfl⟩ := List.mem_map.mp hd; simp [lcStep, setT, wipeE, evTs, evX, evW, evDs, asD, asB, slotD, slotB, RS.ofO, RS.bind, neu, frz, is_order_ok (h w hw)])
  have L2 := lc_val (T := td.it) (cl := callI td.it (n + 1)) (el := .cmp .In (.loc 2) (.glb 55)) (it := .loc 1) (ifs := .nil) (t := [2]) (vs := [2]) (tp := false) (e := [some (.val (.str x)), some (.val (.lst (ws.map .str))), none]) (s := s) (ds := ws.map .str) (f := fun d => (inD td.it d (.str "123456789")).map .bl)
    (by simp [evX, evW, asB, slotB, RS.ofO, RS.bind, itemsD]) zm rfl
    (by intro d hd; obtain ⟨w, hw, rfl⟩ := List.mem_map.mp hd; simp [lcStep, setT, wipeE, evTs, evX, evW, evDs, asD, asB, slotD, slotB, RS.ofO, RS.bind, neu, frz, cmpV, clsD, cmpD, g, q w (h w hw)])
  have B1 : (ws.map D.str).filterMap (fun _ => some (D.bl true)) = ws.map fun w => D.bl ((fun _ => true) w) := by rw [fm_some, List.map_map]; rfl
  have B2 : (ws.map D.str).filterMap (fun d => (inD td.it d (.str "123456789")).map D.bl) = ws.map fun w => D.bl ((fun w => decide (w ∈ stepL)) w) := by
    clear hs hl hw zm L1 L2 B1
    induction ws with
    | nil => rfl
    | cons w ws ih => simp [q w (h w List.mem_cons_self), ih fun v hv => h v (List.mem_cons_of_mem _ hv)]
  rw [B1] at L1
  rw [B2] at L2
  have a1 : blsD (ws.map fun w => D.bl ((fun _ => true) w)) = some (ws.map fun _ => true) := blsD_map _ ws
  have a2 : blsD (ws.map fun w => D.bl ((fun w => decide (w ∈ stepL)) w)) = some (ws.map fun w => decide (w ∈ stepL)) := blsD_map _ ws
  have b1 : (ws.map fun _ => true).all id = true := by simp
  have b2 : (ws.map fun w => decide (w ∈ stepL)).any id = true := by
    obtain ⟨w, p, p'⟩ := hw
    simp only [List.any_map, List.any_eq_true]
    exact ⟨w, p, by simp [p']⟩
  have nl : ¬ (8 : Int) < (ws.length : Nat) := by omega
  have ln : lenD (.lst (ws.map D.str)) = some ws.length := by simp [lenD]
  simp only at L1 L2 a1 a2
  rw [call_fn (fi := i_is_row) rfl rfl, callF_all rfl]
  simp [↓L1, ↓L2, i_is_row, b_is_row, startE, exB, exS, evX, evDs, evBs, evBo, evTs, neu, evW, asD, asB, slotB, slotD, frz, treeO, lookO, RS.ofO, RS.bind, RS.toO, O.seq, retO, plainBi, biD, binV, clsD, binD, idxV, tgA, tgAs, tgsLen, cmpV, cmpD, truthV, truthD, isTyD, setT, setL, itemsD, g, g', hs, ln, a1, a2, b1, b2, nl]
end K12

set_option Elab.async false
set_option linter.all false
/-! The pure law of walks: no program in sight. -/
namespace MW
/-- the moves of the four looks -/
def mv (l : Nat) : Int × Int := match l with
  | 0 => (0, 1)
  | 1 => (1, 0)
  | 2 => (0, -1)
  | _ => (-1, 0)
/-- an order: a turn and steps -/
abbrev Od := Nat × Nat
def run : List Od → Nat → List Nat × Nat
  | [], l => ([], l)
  | w :: ws, l => (List.replicate w.2 ((l + w.1) % 4) ++ (run ws ((l + w.1) % 4)).1, (run ws ((l + w.1) % 4)).2)
def stps : List Od → Nat
  | [] => 0
  | w :: ws => w.2 + stps ws
def trns : List Od → Nat
  | [] => 0
  | w :: ws => w.1 + trns ws
theorem run_len : ∀ (ws : List Od) (l : Nat), (run ws l).1.length = stps ws
  | [], _ => rfl
  | w :: ws, l => by simp [run, stps, run_len ws]
theorem run_look : ∀ (ws : List Od) (l : Nat), l < 4 → (run ws l).2 = (l + trns ws) % 4
  | [], l, h => by simp [run, trns]; omega
  | w :: ws, l, h => by simp only [run, trns]; rw [run_look ws _ (Nat.mod_lt _ (by omega))]; omega
theorem run_lt : ∀ (ws : List Od) (l : Nat), ∀ x ∈ (run ws l).1, x < 4
  | [], _, x, h => by simp [run] at h
  | w :: ws, l, x, h => by
    simp only [run, List.mem_append, List.mem_replicate] at h
    rcases h with h | h
    · rw [h.2]; exact Nat.mod_lt _ (by omega)
    · exact run_lt ws _ x h
def walk (ws : List Od) (l : Nat) : Nat → List Nat × Nat
  | 0 => ([], l)
  | k + 1 => ((walk ws l k).1 ++ (run ws (walk ws l k).2).1, (run ws (walk ws l k).2).2)
theorem walk_add (ws : List Od) (l j : Nat) : ∀ k, walk ws l (j + k) = ((walk ws l j).1 ++ (walk ws (walk ws l j).2 k).1, (walk ws (walk ws l j).2 k).2)
  | 0 => by simp [walk]
  | k + 1 => by
    rw [← Nat.add_assoc]
    show ((walk ws l (j + k)).1 ++ (run ws (walk ws l (j + k)).2).1, (run ws (walk ws l (j + k)).2).2) = _
    rw [walk_add ws l j k]
    simp [walk, List.append_assoc]
theorem walk_len (ws : List Od) (l : Nat) : ∀ k, (walk ws l k).1.length = k * stps ws
  | 0 => by simp [walk]
  | k + 1 => by simp [walk, walk_len ws l k, run_len, Nat.add_mul]
theorem walk_look (ws : List Od) (l : Nat) (h : l < 4) : ∀ k, (walk ws l k).2 = (l + k * trns ws) % 4
  | 0 => by simp [walk]; omega
  | k + 1 => by
    have ih := walk_look ws l h k
    show (run ws (walk ws l k).2).2 = _
    rw [run_look ws _ (by rw [ih]; exact Nat.mod_lt _ (by omega)), ih, Nat.add_mul]
    omega
theorem walk_lt (ws : List Od) (l : Nat) : ∀ k, ∀ x ∈ (walk ws l k).1, x < 4
  | 0, x, h => by simp [walk] at h
  | k + 1, x, h => by
    simp only [walk, List.mem_append] at h
    rcases h with h | h
    · exact walk_lt ws l k x h
    · exact run_lt _ _ x h
/-- the look of a step -/
def gl (ws : List Od) (l i : Nat) : Nat := (walk ws l (i + 1)).1.getD i 0
/-- a list that tells the looks from the first on -/
def Fol (L : List Nat) (g : Nat → Nat) : Prop := ∀ i, i < L.length → L[i]? = some (g i)
theorem walk_get (ws : List Od) (l : Nat) {k m i : Nat} (h : i < (walk ws l k).1.length) (h' : i < (walk ws l m).1.length) : (walk ws l k).1[i]? = (walk ws l m).1[i]? := by
  rcases Nat.le_total k m with q | q
  · obtain ⟨j, rfl⟩ := Nat.le.dest q
    rw [walk_add ws l k j]
    simp only
    rw [List.getElem?_append_left h]
  · obtain ⟨j, rfl⟩ := Nat.le.dest q
    rw [walk_add ws l m j]
    simp only
    rw [List.getElem?_append_left h']
theorem fol (ws : List Od) (l : Nat) (hs : 0 < stps ws) (k : Nat) : Fol (walk ws l k).1 (gl ws l) := by
  intro i hi
  have h2 : i < (walk ws l (i + 1)).1.length := by
    rw [walk_len]
    calc i < i + 1 := by omega
      _ = (i + 1) * 1 := by omega
      _ ≤ (i + 1) * stps ws := Nat.mul_le_mul_left _ hs
  rw [walk_get ws l hi h2, gl, List.getD_eq_getElem?_getD, List.getElem?_eq_getElem h2]
  rfl
theorem gl_lt (ws : List Od) (l : Nat) (i : Nat) : gl ws l i < 4 := by
  unfold gl
  rw [List.getD_eq_getElem?_getD]
  cases h : (walk ws l (i + 1)).1[i]? with
  | none => simp
  | some x => exact walk_lt ws l _ x (List.mem_of_getElem? h)
/-- a period -/
def Per (g : Nat → Nat) (p : Nat) : Prop := ∀ i, g (i + p) = g i
theorem per (ws : List Od) (l K : Nat) (hs : 0 < stps ws) (hl : (walk ws l K).2 = l) : Per (gl ws l) (walk ws l K).1.length := by
  intro i
  have a := walk_add ws l K (i + 1)
  rw [hl] at a
  have h2 : i < (walk ws l (i + 1)).1.length := by
    rw [walk_len]
    calc i < i + 1 := by omega
      _ = (i + 1) * 1 := by omega
      _ ≤ (i + 1) * stps ws := Nat.mul_le_mul_left _ hs
  have f1 := fol ws l hs (i + 1) i h2
  have f2 := fol ws l hs (K + (i + 1)) (i + (walk ws l K).1.length) (by rw [a]; simp only [List.length_append]; omega)
  rw [a] at f2
  simp only at f2
  rw [List.getElem?_append_right (by omega), Nat.add_sub_cancel, f1] at f2
  exact (Option.some.inj f2).symm
theorem Per.mul {g : Nat → Nat} {p : Nat} (h : Per g p) : ∀ k i, g (i + k * p) = g i
  | 0, i => by simp
  | k + 1, i => by rw [Nat.add_mul, ← Nat.add_assoc, Nat.one_mul, h, h.mul k i]
theorem Per.mod {g : Nat → Nat} {p : Nat} (h : Per g p) (i : Nat) : g (i % p) = g i := by
  have := h.mul (i / p) (i % p)
  rw [← this, Nat.mul_comm, Nat.mod_add_div]
/-- a period within a period -/
theorem per_within {g : Nat → Nat} {S p : Nat} (hS : Per g S) (S0 : 0 < S) (p0 : 0 < p) (hd : S % p = 0) (hw : ∀ i, i + p < S → g (i + p) = g i) : Per g p := by
  have A : ∀ j, j < S → g j = g (j % p) := by
    intro j
    induction j using Nat.strongRecOn with
    | ind j ih =>
      intro hj
      by_cases q : j < p
      · rw [Nat.mod_eq_of_lt q]
      · have e : j = (j - p) + p := by omega
        have := hw (j - p) (by omega)
        rw [← e] at this
        rw [this, ih (j - p) (by omega) (by omega)]
        congr 1
        conv => rhs; rw [e]
        rw [Nat.add_mod_right]
  have B : ∀ i, g i = g (i % p) := by
    intro i
    rw [← hS.mod i, A _ (Nat.mod_lt _ S0), Nat.mod_mod_of_dvd _ (Nat.dvd_of_mod_eq_zero hd)]
  intro i
  rw [B (i + p), Nat.add_mod_right, ← B i]
/-- the places -/
def pos (st : Int × Int) (g : Nat → Nat) : Nat → Int × Int
  | 0 => st
  | n + 1 => ((pos st g n).1 + (mv (g n)).1, (pos st g n).2 + (mv (g n)).2)
theorem pos_add {st : Int × Int} {g : Nat → Nat} {p : Nat} (h : Per g p) : ∀ i, pos st g (p + i) = ((pos st g i).1 + ((pos st g p).1 - st.1), (pos st g i).2 + ((pos st g p).2 - st.2))
  | 0 => by simp only [Nat.add_zero, pos]; ext <;> simp <;> omega
  | i + 1 => by
    show pos st g (p + i + 1) = _
    simp only [pos]
    rw [pos_add h i, Nat.add_comm p i, h i]
    ext <;> simp only <;> omega
theorem pos_mul {st : Int × Int} {g : Nat → Nat} {p : Nat} (h : Per g p) (i : Nat) : ∀ k : Nat, pos st g (k * p + i) = ((pos st g i).1 + k * ((pos st g p).1 - st.1), (pos st g i).2 + k * ((pos st g p).2 - st.2))
  | 0 => by simp
  | k + 1 => by
    rw [show (k + 1) * p + i = p + (k * p + i) by rw [Nat.add_mul]; omega, pos_add h, pos_mul h i k]
    ext <;> simp only [Int.natCast_add, Int.add_mul] <;> omega
theorem pos_mod {st : Int × Int} {g : Nat → Nat} {p : Nat} (h : Per g p) (t : Nat) : pos st g t = ((pos st g (t % p)).1 + ((t / p : Nat) : Int) * ((pos st g p).1 - st.1), (pos st g (t % p)).2 + ((t / p : Nat) : Int) * ((pos st g p).2 - st.2)) := by
  have := pos_mul (st := st) h (t % p) (t / p)
  rw [← this]
  congr 1
  rw [Nat.mul_comm, Nat.div_add_mod]
theorem pos_near {st : Int × Int} {g : Nat → Nat} : ∀ n, st.1 - n ≤ (pos st g n).1 ∧ (pos st g n).1 ≤ st.1 + n ∧ st.2 - n ≤ (pos st g n).2 ∧ (pos st g n).2 ≤ st.2 + n
  | 0 => by simp [pos]
  | n + 1 => by
    have ih := pos_near (st := st) (g := g) n
    have m : ∀ l, -1 ≤ (mv l).1 ∧ (mv l).1 ≤ 1 ∧ -1 ≤ (mv l).2 ∧ (mv l).2 ≤ 1 := by
      intro l
      unfold mv
      split <;> simp
    have m := m (g n)
    simp only [pos]
    omega
theorem four {l t : Nat} (h : l < 4) : (l + 4 * t) % 4 = l := by omega
theorem walk4 (ws : List Od) (l : Nat) (h : l < 4) : (walk ws l 4).2 = l := by rw [walk_look ws l h]; omega
end MW

set_option Elab.async false
set_option linter.all false
set_option maxRecDepth 100000
set_option maxHeartbeats 410000
namespace K12
open PySem L2 Wk
/-! ### loops, statements one by one -/
theorem frGo_nx {step : D → Wk.Env → Sto → O} (I : List D → Wk.Env → Sto → Prop) (hs : ∀ d ds e s, I (d :: ds) e s → ∃ e' s', step d e s = .nx e' s' ∧ I ds e' s') : ∀ ds e s, I ds e s → ∃ e' s', frGo step ds e s = .nx e' s' ∧ I [] e' s'
  | [], e, s, h => ⟨e, s, rfl, h⟩
  | d :: ds, e, s, h => by
    obtain ⟨e1, s1, h1, h2⟩ := hs d ds e s h
    obtain ⟨e2, s2, h3, h4⟩ := frGo_nx I hs ds e1 s1 h2
    refine ⟨e2, s2, ?_, h4⟩
    unfold frGo
    rw [h1]
    exact h3
theorem frGo_rt {step : D → Wk.Env → Sto → O} {R : Rv → Sto → Prop} (I : List D → Wk.Env → Sto → Prop) (hs : ∀ d ds e s, I (d :: ds) e s → (∃ e' s', step d e s = .nx e' s' ∧ I ds e' s') ∨ (∃ r s', step d e s = .rt r s' ∧ R r s')) : ∀ ds e s, I ds e s → (∃ e' s', frGo step ds e s = .nx e' s' ∧ I [] e' s') ∨ (∃ r s', frGo step ds e s = .rt r s' ∧ R r s')
  | [], e, s, h => .inl ⟨e, s, rfl, h⟩
  | d :: ds, e, s, h => by
    unfold frGo
    rcases hs d ds e s h with ⟨e1, s1, h1, h2⟩ | ⟨r, s1, h1, h2⟩
    · rw [h1]
      exact frGo_rt I hs ds e1 s1 h2
    · rw [h1]
      exact .inr ⟨r, s1, rfl, h2⟩
theorem ret_nx {T : IT} {cl : CallT} {fi : FnI} {x : Sx} {b : Blk} {e e1 : Wk.Env} {s s1 : Sto} {r : RS D} (h : exS T cl x e s = .nx e1 s1) (h2 : retO T fi (exB T cl b e1 s1) = r) : retO T fi (exB T cl (.cons x b) e s) = r := by
  rw [← h2]
  simp only [exB, h, O.seq]
theorem mk_nx {T : IT} {cl : CallT} {x : Sx} {b : Blk} {e e1 : Wk.Env} {s s1 : Sto} {r : RS D} (h : exS T cl x e s = .nx e1 s1) (h2 : makeK T (exB T cl b e1 s1) = r) : makeK T (exB T cl (.cons x b) e s) = r := by
  rw [← h2]
  simp only [exB, h, O.seq]
theorem exB_nx {T : IT} {cl : CallT} {x : Sx} {b : Blk} {e e1 : Wk.Env} {s s1 : Sto} {r : O} (h : exS T cl x e s = .nx e1 s1) (h2 : exB T cl b e1 s1 = r) : exB T cl (.cons x b) e s = r := by
  rw [← h2]
  simp only [exB, h, O.seq]
theorem exB_one {T : IT} {cl : CallT} {x : Sx} {e e1 : Wk.Env} {s s1 : Sto} (h : exS T cl x e s = .nx e1 s1) : exB T cl (.cons x .nil) e s = .nx e1 s1 := by
  simp only [exB, h, O.seq]
theorem exS_fr {T : IT} {cl : CallT} {t : List Nat} {tp : Bool} {it : Ex} {b : Blk} {e e1 : Wk.Env} {s s0 s1 : Sto} {ds : List D} (h : (evX T cl it e s).i = .ok ds s0) (h2 : frGo (frStep t tp fun e s => exB T cl b e s) ds e s0 = .nx e1 s1) : exS T cl (.fr t tp it b) e s = .nx e1 s1 := by
  simp only [exS, h, RS.toO_ok, h2]
theorem exS_fr' {T : IT} {cl : CallT} {t : List Nat} {tp : Bool} {it : Ex} {b : Blk} {e : Wk.Env} {s s0 : Sto} {ds : List D} (h : (evX T cl it e s).i = .ok ds s0) : exS T cl (.fr t tp it b) e s = frGo (frStep t tp fun e s => exB T cl b e s) ds e s0 := by
  simp only [exS, h, RS.toO_ok]
theorem ret_rt {T : IT} {cl : CallT} {fi : FnI} {x : Sx} {b : Blk} {e : Wk.Env} {s s1 : Sto} {v : Rv} {r : RS D} (h : exS T cl x e s = .rt v s1) (h2 : retO T fi (.rt v s1) = r) : retO T fi (exB T cl (.cons x b) e s) = r := by
  rw [← h2]
  simp only [exB, h, O.seq]
theorem exS_whl {T : IT} {cl : CallT} {c : Ex} {b : Blk} {e e1 : Wk.Env} {s s1 : Sto} (h2 : wl (fun e s => (evX T cl c e s).t) (fun e s => exB T cl b e s) e s = .nx e1 s1) : exS T cl (.whl c b) e s = .nx e1 s1 := by
  simp only [exS, h2]
theorem range_i {T : IT} {cl : CallT} {as : Exs} {e : Wk.Env} {s : Sto} {xs ds : List D} (h : evBs T cl as e s = .ok xs s) (h2 : rangeOf xs = some ds) : (evX T cl (.bi .range as) e s).i = .ok ds s := by
  have a : (evX T cl (.bi .range as) e s).i = (evBs T cl as e s).bind fun xs s => RS.ofO (rangeOf xs) s := by simp only [evX]
  rw [a, h]
  simp only [RS.bind_ok, h2, RS.ofO_some]
theorem range_i2 {T : IT} {cl : CallT} {as : Exs} {e : Wk.Env} {s s' : Sto} {xs ds : List D} (h : evBs T cl as e s = .ok xs s') (h2 : rangeOf xs = some ds) : (evX T cl (.bi .range as) e s).i = .ok ds s' := by
  have a : (evX T cl (.bi .range as) e s).i = (evBs T cl as e s).bind fun xs s => RS.ofO (rangeOf xs) s := by simp only [evX]
  rw [a, h]
  simp only [RS.bind_ok, h2, RS.ofO_some]
theorem range_j {T : IT} {cl : CallT} {as : Exs} {e : Wk.Env} {s : Sto} {xs ds : List D} (h : evBs T cl as e s = .ok xs s) (h2 : rangeOf xs = some ds) : (evX T cl (.bi .range as) e s).j = .ok ds s := by
  have a : (evX T cl (.bi .range as) e s).j = (evBs T cl as e s).bind fun xs s => RS.ofO (rangeOf xs) s := by simp only [evX]
  rw [a, h]
  simp only [RS.bind_ok, h2, RS.ofO_some]
theorem slc_v {T : IT} {cl : CallT} {a : Ex} {lo hi : Exo} {e : Wk.Env} {s : Sto} {x : D} {l h : Option Int} {r : Rv} (h1 : asB T a e s (evX T cl a e s).v = .ok x s) (h2 : evO T cl lo e s = .ok l s) (h3 : evO T cl hi e s = .ok h s) (h4 : slcD x l h = some r) : (evX T cl (.slc a lo hi) e s).v = .ok r s := by
  simp only [evX, evW, h1, RS.bind_ok, h2, h3, h4, RS.ofO_some]
theorem evO_so {T : IT} {cl : CallT} {a : Ex} {e : Wk.Env} {s : Sto} {i : Int} (h1 : asB T a e s (evX T cl a e s).v = .ok (.int i) s) : evO T cl (.so a) e s = .ok (some i) s := by
  simp only [evO, h1, RS.bind_ok]
theorem asg_v {T : IT} {cl : CallT} {t : Tg} {a : Ex} {e e1 : Wk.Env} {s s1 s2 : Sto} {r : Rv} {d : D} (h1 : (evX T cl a e s).v = .ok r s1) (h2 : frz T r = some d) (h3 : tgA T cl t d e s1 = .ok e1 s2) : exS T cl (.asg false t a) e s = .nx e1 s2 := by
  simp only [exS, h1, RS.toO_ok, h2, h3]
def nthS : Blk → Nat → Sx
  | .nil, _ => .pass
  | .cons x _, 0 => x
  | .cons _ b, n + 1 => nthS b n
/-- a loop's body -/
def inB : Sx → Blk
  | .fr _ _ _ b => b
  | .whl _ b => b
  | _ => .nil
def natD (i : Nat) : D := .int (i : Int)
def prD (p : Int × Int) : D := .tup [.int p.1, .int p.2]
def nesw (l : Nat) : Str := match l with
  | 0 => "N"
  | 1 => "E"
  | 2 => "S"
  | _ => "W"
def odS (w : Str) : MW.Od := (if w = "R" then 1 else if w = "B" then 2 else if w = "L" then 3 else 0, if w = "1" then 1 else if w = "2" then 2 else if w = "3" then 3 else if w = "4" then 4 else if w = "5" then 5 else if w = "6" then 6 else if w = "7" then 7 else if w = "8" then 8 else if w = "9" then 9 else 0)
theorem nesw_mem {l : Nat} : nesw l ∈ (["N", "E", "S", "W"] : List Str) := by
  unfold nesw
  split <;> simp
/-- splitting of a row -/
def Spl (x : Str) (ws : List Str) : Prop := smD .split x (.str " ") = some (.fr (.lst (ws.map .str))) ∧ (∀ w ∈ ws, w ∈ ordL) ∧ ws.length ≤ 8 ∧ ∃ w ∈ ws, w ∈ stepL
theorem stps_le : ∀ {ws : List Str}, (∀ w ∈ ws, w ∈ ordL) → MW.stps (ws.map odS) ≤ 9 * ws.length
  | [], _ => by simp [MW.stps]
  | w :: ws, h => by
    have q : ∀ w ∈ ordL, (odS w).2 ≤ 9 := by decide +kernel
    have := q w (h w List.mem_cons_self)
    have := stps_le (ws := ws) fun v hv => h v (List.mem_cons_of_mem _ hv)
    simp only [List.map_cons, MW.stps, List.length_cons]
    omega
theorem stps_pos : ∀ {ws : List Str}, (∃ w ∈ ws, w ∈ stepL) → 0 < MW.stps (ws.map odS)
  | [], h => by obtain ⟨w, p, _⟩ := h; simp at p
  | w :: ws, h => by
    have q : ∀ w ∈ stepL, 1 ≤ (odS w).2 := by decide +kernel
    obtain ⟨v, p, p'⟩ := h
    simp only [List.map_cons, MW.stps]
    rcases List.mem_cons.mp p with rfl | p
    · have := q v p'
      omega
    · have := stps_pos (ws := ws) ⟨v, p, p'⟩
      omega
theorem word_look {w : Str} (h : w ∈ ordL) (q : (odS w).1 ≠ 0) : idxD td.it (.kd 67) (.str w) = some (natD (odS w).1) ∧ (odS w).2 = 0 := by
  simp only [ordL, List.mem_cons, List.not_mem_nil, or_false] at h
  rcases h with rfl | rfl | rfl | rfl | rfl | rfl | rfl | rfl | rfl | rfl | rfl | rfl
  case _ => exact absurd rfl q
  case _ => exact absurd rfl q
  case _ => exact absurd rfl q
  case _ => exact absurd rfl q
  case _ => exact absurd rfl q
  case _ => exact absurd rfl q
  case _ => exact absurd rfl q
  case _ => exact absurd rfl q
  case _ => exact absurd rfl q
  case _ => exact ⟨rfl, rfl⟩
  case _ => exact ⟨rfl, rfl⟩
  case _ => exact ⟨rfl, rfl⟩
/-- an integer, looked at -/
def isInt (r : Option Rv) (i : Int) : Bool := match r with
  | some (.val (.int j)) => decide (j = i)
  | _ => false
theorem isInt_eq {r : Option Rv} {i : Int} (h : isInt r i = true) : r = some (.val (.int i)) := by
  match r, h with
  | some (.val (.int j)), h => rw [of_decide_eq_true h]
theorem word_turn {w : Str} (h : w ∈ ordL) (q : (odS w).1 ≠ 0) : smD .index " RBL" (.str w) = some (.val (natD (odS w).1)) ∧ (odS w).2 = 0 := by
  have f : ∀ w ∈ ordL, (odS w).1 ≠ 0 → isInt (smD .index " RBL" (.str w)) (odS w).1 = true ∧ (odS w).2 = 0 := by decide +kernel
  obtain ⟨a, b⟩ := f w h q
  exact ⟨isInt_eq a, b⟩
theorem word_step {w : Str} (h : w ∈ ordL) (q : (odS w).1 = 0) : biD .int [.str w] = some (.val (natD (odS w).2)) := by
  have f : ∀ w ∈ ordL, (odS w).1 = 0 → isInt (biD .int [.str w]) (odS w).2 = true := by decide +kernel
  exact isInt_eq (f w h q)
theorem index_ok {l : Nat} (h : l < 4) : smD .index "NESW" (.str (nesw l)) = some (.val (natD l)) := by
  have q : ∀ l < 4, isInt (smD .index "NESW" (.str (nesw l))) l = true := by decide +kernel
  exact isInt_eq (q l h)
theorem look_ok {l : Nat} (h : l < 4) : idxD td.it (.str "NESW") (natD l) = some (.str (nesw l)) := by
  have q : l = 0 ∨ l = 1 ∨ l = 2 ∨ l = 3 := by omega
  rcases q with rfl | rfl | rfl | rfl <;> rfl
/-! ### ways_of -/
theorem ways_loop {cl : CallT} {a0 a1 : D} {s : Sto} : ∀ (ws : List Str) (acc : List Nat) (l : Nat) (w4 : Option Sv), (∀ w ∈ ws, w ∈ ordL) → l < 4 → acc.length + 9 * ws.length ≤ 100 →
    ∃ w4', frGo (frStep [4] false fun e s => exB td.it cl (inB (nthS b_ways_of 1)) e s) (ws.map .str) [some (.val a0), some (.val a1), some (.val (.lst (acc.map natD))), some (.val (natD l)), w4] s =
      .nx [some (.val a0), some (.val a1), some (.val (.lst ((acc ++ (MW.run (ws.map odS) l).1).map natD))), some (.val (natD (MW.run (ws.map odS) l).2)), w4'] s
  | [], acc, l, w4, _, _, _ => ⟨w4, by simp [frGo, MW.run]⟩
  | w :: ws, acc, l, w4, h, hl, hn => by
    have g' : td.it.glob 67 = some (.kd 67) := rfl
    have q1 : ∀ w ∈ ordL, inD td.it (.str w) (.kd 67) = some (decide ((odS w).1 ≠ 0)) := by decide +kernel
    have q3 : ∀ w ∈ ordL, (odS w).2 ≤ 9 := by decide +kernel
    have hw := h w List.mem_cons_self
    have q3 := q3 w hw
    have r1 := q1 w hw
    simp only [List.length_cons] at hn
    have body : frStep [4] false (fun e s => exB td.it cl (inB (nthS b_ways_of 1)) e s) (.str w) [some (.val a0), some (.val a1), some (.val (.lst (acc.map natD))), some (.val (natD l)), w4] s =
        .nx [some (.val a0), some (.val a1), some (.val (.lst ((acc ++ List.replicate (odS w).2 ((l + (odS w).1) % 4)).map natD))), some (.val (natD ((l + (odS w).1) % 4))), some (.val (.str w))] s := by
      by_cases hq : (odS w).1 = 0
      · have r4 := word_step hw hq
        rw [decide_eq_false (by simp [hq])] at r1
        have lm : (l + (odS w).1) % 4 = l := by rw [hq]; exact Nat.mod_eq_of_lt hl
        have z1 : szOk 1 = true := by decide
        have z2 : szOk (acc.length + (odS w).2) = true := by unfold szOk; simp; omega
        have z3 : szOk (odS w).2 = true := by unfold szOk; simp; omega
        have z5 : (((odS w).2 : Nat) : Int) < 4611686018427387904 := by omega
        have z4 : -4611686018427387904 ≤ (((odS w).2 : Nat) : Int) := by omega
        have fl : ∀ k (d : D), (List.replicate k [d]).flatten = List.replicate k d := by
          intro k d
          induction k with
          | zero => rfl
          | succ k ih => simp [List.replicate_succ, ih]
        rw [lm]
        simp only [natD] at *
        simp [frStep, inB, nthS, b_ways_of, startE, exB, exS, evX, evDs, evBs, evW, asD, asB, slotB, slotD, frz, treeO, lookO, RS.ofO, RS.bind, RS.toO, O.seq, plainBi, binV, clsD, binD, cmpV, cmpD, truthV, truthD, tgA, setT, g', r1, r4, z1, z2, z3, z4, z5, fl]
        exact .inr rfl
      · obtain ⟨r4, r5⟩ := word_look hw hq
        rw [decide_eq_true hq] at r1
        have fm : ((l : Int) + ((odS w).1 : Int)).fmod 4 = (((l + (odS w).1) % 4 : Nat) : Int) := by
          rw [Int.fmod_eq_emod_of_nonneg _ (by omega)]; simp
        rw [r5]
        simp only [natD] at *
        simp [-Int.natCast_emod, frStep, inB, nthS, b_ways_of, startE, exB, exS, evX, evDs, evBs, evW, asD, asB, slotB, slotD, frz, treeO, lookO, RS.ofO, RS.bind, RS.toO, O.seq, plainBi, binV, clsD, binD, idxV, cmpV, cmpD, truthV, truthD, tgA, setT, g', r1, r4, fm]
    obtain ⟨w4', ih⟩ := ways_loop (cl := cl) (a0 := a0) (a1 := a1) (s := s) ws (acc ++ List.replicate (odS w).2 ((l + (odS w).1) % 4)) ((l + (odS w).1) % 4) (some (.val (.str w))) (fun v hv => h v (List.mem_cons_of_mem _ hv)) (Nat.mod_lt _ (by omega)) (by simp only [List.length_append, List.length_replicate]; omega)
    refine ⟨w4', ?_⟩
    rw [List.map_cons]
    unfold frGo
    rw [body]
    dsimp only
    rw [ih]
    simp only [List.map_cons, MW.run, List.append_assoc]
theorem ways_of_ok {n : Nat} {x : Str} {ws : List Str} {l : Nat} {s : Sto} (hx : Spl x ws) (hl : l < 4) : callI td.it (n + 1) 20 [.str x, .str (nesw l)] [] s = .ok (.tup [.lst ((MW.run (ws.map odS) l).1.map natD), natD (MW.run (ws.map odS) l).2]) s := by
  have g : td.it.glob 52 = some (.str "NESW") := rfl
  have ix := index_ok hl
  have z0 : szOk 0 = true := by decide
  have z2 : szOk 2 = true := by decide
  have h3 := hx.2.2.1
  obtain ⟨w4, lp⟩ := ways_loop (cl := callI td.it n) (a0 := .str x) (a1 := .str (nesw l)) (s := s) ws [] l none hx.2.1 hl (by simp; omega)
  rw [call_fn (fi := i_ways_of) rfl rfl, callF_all rfl]
  refine ret_nx (e1 := [some (.val (.str x)), some (.val (.str (nesw l))), some (.val (.lst (([] : List Nat).map natD))), some (.val (natD l)), none]) (s1 := s) ?_ (ret_nx (exS_fr (ds := ws.map .str) (s0 := s) ?_ lp) ?_)
  · simp [startE, exB, exS, evX, evDs, evBs, evBo, evTs, neu, evW, asD, asB, slotB, slotD, frz, treeO, lookO, RS.ofO, RS.bind, RS.toO, O.seq, retO, plainBi, biD, binV, clsD, binD, idxV, tgA, tgAs, tgsLen, cmpV, cmpD, truthV, truthD, isTyD, setT, setL, itemsD, i_ways_of, g, ix, z0]
  · simp [startE, exB, exS, evX, evDs, evBs, evBo, evTs, neu, evW, asD, asB, slotB, slotD, frz, treeO, lookO, RS.ofO, RS.bind, RS.toO, O.seq, retO, plainBi, biD, binV, clsD, binD, idxV, tgA, tgAs, tgsLen, cmpV, cmpD, truthV, truthD, isTyD, setT, setL, itemsD, hx.1]
  · simp [startE, exB, exS, evX, evDs, evBs, evBo, evTs, neu, evW, asD, asB, slotB, slotD, frz, treeO, lookO, RS.ofO, RS.bind, RS.toO, O.seq, retO, plainBi, biD, binV, clsD, binD, idxV, tgA, tgAs, tgsLen, cmpV, cmpD, truthV, truthD, isTyD, setT, setL, itemsD, i_ways_of, z2]
end K12

set_option Elab.async false
set_option linter.all false
set_option maxRecDepth 100000
set_option maxHeartbeats 410000
namespace K12
open PySem L2 Wk
theorem idx_t0 {T : IT} {u v : D} : idxD T (.tup [u, v]) (.int 0) = some u := rfl
theorem idx_t1 {T : IT} {u v : D} : idxD T (.tup [u, v]) (.int 1) = some v := rfl
theorem idx_k0 {T : IT} {u v : D} : idxD T (.kt [u, v]) (.int 0) = some u := rfl
theorem idx_k1 {T : IT} {u v : D} : idxD T (.kt [u, v]) (.int 1) = some v := rfl
theorem toPys_ints : ∀ l : List Int, toPys (l.map D.int) = some (l.map PyData.int)
  | [] => rfl
  | i :: l => by simp [toPys, toPy, toPys_ints l]
theorem eqD_ints (a b : List Int) : eqD (.lst (a.map .int)) (.lst (b.map .int)) = some (decide (a = b)) := by
  unfold eqD
  simp only [toPy, toPys_ints, Option.map_some, Option.bind_some, PySem.W.ke_shaped_ints, and_self, if_true, PyData.eqv, PySem.W.ked_eqvAll]
theorem natD_map (l : List Nat) : l.map natD = (l.map fun i : Nat => (i : Int)).map D.int := by rw [List.map_map]; rfl
theorem cast_inj : ∀ a b : List Nat, (a.map fun i : Nat => (i : Int)) = (b.map fun i : Nat => (i : Int)) → a = b
  | [], [], _ => rfl
  | [], _ :: _, h => by simp at h
  | _ :: _, [], h => by simp at h
  | x :: a, y :: b, h => by
    simp only [List.map_cons, List.cons.injEq] at h
    rw [cast_inj a b h.2, show x = y by omega]
theorem eqD_nats (a b : List Nat) : eqD (.lst (a.map natD)) (.lst (b.map natD)) = some (decide (a = b)) := by
  rw [natD_map, natD_map, eqD_ints]
  congr 1
  apply decide_eq_decide.mpr
  constructor
  · exact cast_inj a b
  · rintro rfl; rfl
theorem slc_from {ds : List D} {k : Nat} (h : k ≤ ds.length) : slcD (.lst ds) (some (k : Int)) none = some (.fr (.lst (ds.drop k))) := by
  have e : HT.sIx ds.length 0 (some (k : Int)) = k := by rw [HT.sIx_nat]; omega
  unfold slcD
  simp only [e, HT.sIx_none]
  rw [List.take_of_length_le (by simp)]
theorem slc_to {ds : List D} {k : Nat} (h : k ≤ ds.length) : slcD (.lst ds) none (some (k : Int)) = some (.fr (.lst (ds.take k))) := by
  have e : HT.sIx ds.length ds.length (some (k : Int)) = k := by rw [HT.sIx_nat]; omega
  unfold slcD
  simp only [e, HT.sIx_none, List.drop_zero, Nat.sub_zero]
theorem b62_small {i : Int} (h : -1000000 ≤ i) (h' : i ≤ 1000000) : b62 i = true := by
  unfold b62
  rw [decide_eq_true (by omega), decide_eq_true (by omega)]
  rfl
/-- a period of a list -/
def LPer (W : List Nat) (p : Nat) : Prop := 0 < p ∧ W.length % p = 0 ∧ ∀ i, i + p < W.length → W[i + p]? = W[i]?
theorem least_body {cl : CallT} {W : List Nat} {s : Sto} {k : Nat} {v : Option Sv} (k0 : 0 < k) (k1 : k < W.length) (hm : W.length ≤ 1000) :
    frStep [2] false (fun e s => exB td.it cl (inB (nthS b_least_period 1)) e s) (natD k) [some (.val (.lst (W.map natD))), some (.val (natD W.length)), v] s =
      if W.length % k = 0 ∧ W.drop k = W.take (W.length - k) then .rt (.val (natD k)) s else .nx [some (.val (.lst (W.map natD))), some (.val (natD W.length)), some (.val (natD k))] s := by
  have f1 : ((W.length : Nat) : Int).fmod (k : Int) = ((W.length % k : Nat) : Int) := by
    rw [Int.fmod_eq_emod_of_nonneg _ (by omega)]; simp
  have f2 : ((W.length : Nat) : Int) - (k : Int) = ((W.length - k : Nat) : Int) := by omega
  have f3 := slc_from (ds := W.map natD) (k := k) (by simp; omega)
  have f4 := slc_to (ds := W.map natD) (k := W.length - k) (by simp)
  have f5 : eqD (.lst ((W.map natD).drop k)) (.lst ((W.map natD).take (W.length - k))) = some (decide (W.drop k = W.take (W.length - k))) := by
    rw [← List.map_drop, ← List.map_take, eqD_nats]
  have k2 : k ≠ 0 := by omega
  have f6 : eqD (.int ((W.length % k : Nat) : Int)) (.int 0) = some (decide (W.length % k = 0)) := by
    rw [eqD_int]; congr 1; apply decide_eq_decide.mpr; omega
  by_cases c1 : W.length % k = 0
  · rw [decide_eq_true c1] at f6
    by_cases c2 : W.drop k = W.take (W.length - k)
    · rw [decide_eq_true c2] at f5
      rw [if_pos ⟨c1, c2⟩]
      simp [-Int.natCast_emod, frStep, inB, nthS, b_least_period, startE, exB, exS, evX, evDs, evBs, evBo, evTs, neu, evW, asD, asB, slotB, slotD, frz, treeO, lookO, RS.ofO, RS.bind, RS.toO, O.seq, retO, plainBi, biD, binV, clsD, binD, idxV, tgA, tgAs, tgsLen, cmpV, cmpD, truthV, truthD, isTyD, setT, setL, itemsD, natD, evO, f1, f2, f3, f4, f5, f6, k2]
    · rw [decide_eq_false c2] at f5
      rw [if_neg fun h => c2 h.2]
      simp [-Int.natCast_emod, frStep, inB, nthS, b_least_period, startE, exB, exS, evX, evDs, evBs, evBo, evTs, neu, evW, asD, asB, slotB, slotD, frz, treeO, lookO, RS.ofO, RS.bind, RS.toO, O.seq, retO, plainBi, biD, binV, clsD, binD, idxV, tgA, tgAs, tgsLen, cmpV, cmpD, truthV, truthD, isTyD, setT, setL, itemsD, natD, evO, f1, f2, f3, f4, f5, f6, k2]
  · rw [decide_eq_false c1] at f6
    rw [if_neg fun h => c1 h.1]
    simp [-Int.natCast_emod, frStep, inB, nthS, b_least_period, startE, exB, exS, evX, evDs, evBs, evBo, evTs, neu, evW, asD, asB, slotB, slotD, frz, treeO, lookO, RS.ofO, RS.bind, RS.toO, O.seq, retO, plainBi, biD, binV, clsD, binD, idxV, tgA, tgAs, tgsLen, cmpV, cmpD, truthV, truthD, isTyD, setT, setL, itemsD, natD, evO, f1, f2, f3, f4, f5, f6, k2]
theorem least_period_ok {n : Nat} {W : List Nat} {s : Sto} (h0 : 0 < W.length) (h1 : W.length ≤ 1000) : ∃ p, LPer W p ∧ callI td.it (n + 1) 7 [.lst (W.map natD)] [] s = .ok (natD p) s := by
  have loop := frGo_rt (step := frStep [2] false fun e s => exB td.it (callI td.it n) (inB (nthS b_least_period 1)) e s) (R := fun r s' => s' = s ∧ ∃ p, r = .val (natD p) ∧ LPer W p)
    (fun rem e s' => s' = s ∧ (∃ v, e = [some (.val (.lst (W.map natD))), some (.val (natD W.length)), v]) ∧ ∀ d ∈ rem, ∃ k, d = natD k ∧ 0 < k ∧ k < W.length)
    (by
      rintro d ds e s' ⟨rfl, ⟨v, rfl⟩, hd⟩
      obtain ⟨k, rfl, k0, k1⟩ := hd d List.mem_cons_self
      rw [least_body k0 k1 h1]
      split
      · rename_i q
        right
        refine ⟨_, _, rfl, rfl, k, rfl, k0, q.1, fun i hi => ?_⟩
        have := congrArg (fun l : List Nat => l[i]?) q.2
        simp only [List.getElem?_drop, List.getElem?_take] at this
        rw [if_pos (by omega), Nat.add_comm] at this
        exact this
      · left
        exact ⟨_, _, rfl, rfl, ⟨_, rfl⟩, fun d hd' => hd d (List.mem_cons_of_mem _ hd')⟩)
    (rangeD 1 (W.length - 1)) [some (.val (.lst (W.map natD))), some (.val (natD W.length)), none] s
    ⟨rfl, ⟨_, rfl⟩, by
      intro d hd
      simp only [rangeD, List.mem_map, List.mem_range] at hd
      obtain ⟨i, hi, rfl⟩ := hd
      exact ⟨i + 1, by simp only [natD]; congr 1; omega, by omega, by omega⟩⟩
  have ln : lenD (.lst (W.map natD)) = some W.length := by simp [lenD]
  have rg : rangeOf [.int 1, .int (W.length : Nat)] = some (rangeD 1 (W.length - 1)) := by
    have a : (((W.length : Nat) : Int) - 1).toNat = W.length - 1 := by omega
    simp only [rangeOf, b62_small (i := 1) (by omega) (by omega), b62_small (i := ((W.length : Nat) : Int)) (by omega) (by omega), a, Bool.and_self, if_true]
  rcases loop with ⟨e', s', q, rfl, ⟨v, rfl⟩, _⟩ | ⟨r, s', q, rfl, p, rfl, hp⟩
  · refine ⟨W.length, ⟨h0, Nat.mod_self _, fun i hi => by omega⟩, ?_⟩
    rw [call_fn (fi := i_least_period) rfl rfl, callF_all rfl]
    refine ret_nx (e1 := [some (.val (.lst (W.map natD))), some (.val (natD W.length)), none]) (s1 := s') ?_ ?_
    · simp [i_least_period, startE, exB, exS, evX, evDs, evBs, evBo, evTs, neu, evW, asD, asB, slotB, slotD, frz, treeO, lookO, RS.ofO, RS.bind, RS.toO, O.seq, retO, plainBi, biD, binV, clsD, binD, idxV, tgA, tgAs, tgsLen, cmpV, cmpD, truthV, truthD, isTyD, setT, setL, itemsD, ln, natD]
    · refine ret_nx (exS_fr (ds := rangeD 1 (W.length - 1)) (s0 := s') ?_ q) ?_
      · refine range_i (xs := [.int 1, .int (W.length : Nat)]) ?_ rg; simp [evX, evBs, evW, asB, slotB, RS.bind, RS.ofO, frz, natD]
      · simp [startE, exB, exS, evX, evDs, evBs, evBo, evTs, neu, evW, asD, asB, slotB, slotD, frz, treeO, lookO, RS.ofO, RS.bind, RS.toO, O.seq, retO, plainBi, biD, binV, clsD, binD, idxV, tgA, tgAs, tgsLen, cmpV, cmpD, truthV, truthD, isTyD, setT, setL, itemsD, natD]
  · refine ⟨p, hp, ?_⟩
    rw [call_fn (fi := i_least_period) rfl rfl, callF_all rfl]
    refine ret_nx (e1 := [some (.val (.lst (W.map natD))), some (.val (natD W.length)), none]) (s1 := s') ?_ ?_
    · simp [i_least_period, startE, exB, exS, evX, evDs, evBs, evBo, evTs, neu, evW, asD, asB, slotB, slotD, frz, treeO, lookO, RS.ofO, RS.bind, RS.toO, O.seq, retO, plainBi, biD, binV, clsD, binD, idxV, tgA, tgAs, tgsLen, cmpV, cmpD, truthV, truthD, isTyD, setT, setL, itemsD, ln, natD]
    · have hx : exS td.it (callI td.it n) (nthS b_least_period 1) [some (.val (.lst (W.map natD))), some (.val (natD W.length)), none] s' = .rt (.val (natD p)) s' := by
        refine (exS_fr' (ds := rangeD 1 (W.length - 1)) (s0 := s') ?_).trans q
        refine range_i (xs := [.int 1, .int (W.length : Nat)]) ?_ rg; simp [evX, evBs, evW, asB, slotB, RS.bind, RS.ofO, frz, natD]
      exact ret_rt hx (by simp [startE, exB, exS, evX, evDs, evBs, evBo, evTs, neu, evW, asD, asB, slotB, slotD, frz, treeO, lookO, RS.ofO, RS.bind, RS.toO, O.seq, retO, plainBi, biD, binV, clsD, binD, idxV, tgA, tgAs, tgsLen, cmpV, cmpD, truthV, truthD, isTyD, setT, setL, itemsD, i_least_period])
end K12

set_option Elab.async false
set_option linter.all false
set_option maxRecDepth 100000
set_option maxHeartbeats 410000
namespace K12
open PySem L2 Wk
/-! ### ways_round -/
theorem round_loop {n : Nat} {x : Str} {ws : List Str} {l : Nat} {s : Sto} (hx : Spl x ws) (hl : l < 4) : ∀ (j k : Nat) (m : Option Sv), k + j = 4 → 1 ≤ k →
    ∃ K m', 1 ≤ K ∧ K ≤ 4 ∧ (MW.walk (ws.map odS) l K).2 = l ∧
    wl (fun e s => (evX td.it (callI td.it (n + 1)) (.cmp .NotEq (.loc 3) (.sm .index (.glb 52) (.loc 1))) e s).t) (fun e s => exB td.it (callI td.it (n + 1)) (inB (nthS b_ways_round 1)) e s) [some (.val (.str x)), some (.val (.str (nesw l))), some (.val (.lst ((MW.walk (ws.map odS) l k).1.map natD))), some (.val (natD (MW.walk (ws.map odS) l k).2)), m] s =
      .nx [some (.val (.str x)), some (.val (.str (nesw l))), some (.val (.lst ((MW.walk (ws.map odS) l K).1.map natD))), some (.val (natD l)), m'] s := by
  have g : td.it.glob 52 = some (.str "NESW") := rfl
  have ix := index_ok hl
  have cond : ∀ k m, (evX td.it (callI td.it (n + 1)) (.cmp .NotEq (.loc 3) (.sm .index (.glb 52) (.loc 1))) [some (.val (.str x)), some (.val (.str (nesw l))), some (.val (.lst ((MW.walk (ws.map odS) l k).1.map natD))), some (.val (natD (MW.walk (ws.map odS) l k).2)), m] s).t = .ok (!decide ((MW.walk (ws.map odS) l k).2 = l)) s := by
    intro k m
    have e := eqD_int (MW.walk (ws.map odS) l k).2 l
    have e' : decide (((MW.walk (ws.map odS) l k).2 : Int) = (l : Int)) = decide ((MW.walk (ws.map odS) l k).2 = l) := by apply decide_eq_decide.mpr; omega
    rw [e'] at e
    simp [startE, exB, exS, evX, evDs, evBs, evBo, evTs, neu, evW, asD, asB, slotB, slotD, frz, treeO, lookO, RS.ofO, RS.bind, RS.toO, O.seq, retO, plainBi, biD, binV, clsD, binD, idxV, tgA, tgAs, tgsLen, cmpV, cmpD, truthV, truthD, isTyD, setT, setL, itemsD, g, ix, natD, e]
  intro j
  induction j with
  | zero =>
    intro k m h _
    obtain rfl : k = 4 := by omega
    have e := MW.walk4 (ws.map odS) l hl
    refine ⟨4, m, by omega, by omega, e, ?_⟩
    rw [wl_unfold, cond, e]
    simp
  | succ j ih =>
    intro k m h h1
    by_cases q : (MW.walk (ws.map odS) l k).2 = l
    · refine ⟨k, m, h1, by omega, q, ?_⟩
      rw [wl_unfold, cond, q]
      simp
    · obtain ⟨K, m', a, b, c, d⟩ := ih (k + 1) (some (.val (.lst ((MW.run (ws.map odS) (MW.walk (ws.map odS) l k).2).1.map natD)))) (by omega) (by omega)
      refine ⟨K, m', a, b, c, ?_⟩
      rw [← d, wl_unfold, cond, decide_eq_false q]
      have lk : (MW.walk (ws.map odS) l k).2 < 4 := by rw [MW.walk_look _ _ hl]; exact Nat.mod_lt _ (by omega)
      have wo := ways_of_ok (n := n) (s := s) hx lk
      have lo := look_ok lk
      have z2 : szOk ((MW.walk (ws.map odS) l k).1.map natD ++ (MW.run (ws.map odS) (MW.walk (ws.map odS) l k).2).1.map natD).length = true := by
        have := stps_le hx.2.1
        have := hx.2.2.1
        unfold szOk
        simp only [List.length_append, List.length_map, MW.walk_len, MW.run_len, decide_eq_true_eq]
        have : k * MW.stps (ws.map odS) ≤ 4 * MW.stps (ws.map odS) := Nat.mul_le_mul_right _ (by omega)
        omega
      simp only [List.length_append, List.length_map] at z2
      have bd : exB td.it (callI td.it (n + 1)) (inB (nthS b_ways_round 1)) [some (.val (.str x)), some (.val (.str (nesw l))), some (.val (.lst ((MW.walk (ws.map odS) l k).1.map natD))), some (.val (natD (MW.walk (ws.map odS) l k).2)), m] s =
          .nx [some (.val (.str x)), some (.val (.str (nesw l))), some (.val (.lst ((MW.walk (ws.map odS) l (k + 1)).1.map natD))), some (.val (natD (MW.walk (ws.map odS) l (k + 1)).2)), some (.val (.lst ((MW.run (ws.map odS) (MW.walk (ws.map odS) l k).2).1.map natD)))] s := by
        refine exB_nx (e1 := [some (.val (.str x)), some (.val (.str (nesw l))), some (.val (.lst ((MW.walk (ws.map odS) l k).1.map natD))), some (.val (natD (MW.walk (ws.map odS) l (k + 1)).2)), some (.val (.lst ((MW.run (ws.map odS) (MW.walk (ws.map odS) l k).2).1.map natD)))]) (s1 := s) ?_ (exB_one ?_)
        · simp [startE, exB, exS, evX, evDs, evBs, evBo, evTs, neu, evW, asD, asB, slotB, slotD, frz, treeO, lookO, RS.ofO, RS.bind, RS.toO, O.seq, retO, plainBi, biD, binV, clsD, binD, idxV, tgA, tgAs, tgsLen, cmpV, cmpD, truthV, truthD, isTyD, setT, setL, itemsD, g, lo, wo, MW.walk]
        · simp [startE, exB, exS, evX, evDs, evBs, evBo, evTs, neu, evW, asD, asB, slotB, slotD, frz, treeO, lookO, RS.ofO, RS.bind, RS.toO, O.seq, retO, plainBi, biD, binV, clsD, binD, idxV, tgA, tgAs, tgsLen, cmpV, cmpD, truthV, truthD, isTyD, setT, setL, itemsD, z2, MW.walk]
      simp only [Bool.not_false, RS.toO_ok, if_true, bd]
theorem ways_round_ok {n : Nat} {x : Str} {ws : List Str} {l : Nat} {s : Sto} (hx : Spl x ws) (hl : l < 4) : ∃ K, 1 ≤ K ∧ K ≤ 4 ∧ (MW.walk (ws.map odS) l K).2 = l ∧ callI td.it (n + 2) 6 [.str x, .str (nesw l)] [] s = .ok (.lst ((MW.walk (ws.map odS) l K).1.map natD)) s := by
  obtain ⟨K, m', a, b, c, d⟩ := round_loop (n := n) (s := s) hx hl 3 1 none (by omega) (by omega)
  refine ⟨K, a, b, c, ?_⟩
  have wo := ways_of_ok (n := n) (s := s) hx hl
  rw [call_fn (fi := i_ways_round) rfl rfl, callF_all rfl]
  refine ret_nx (e1 := [some (.val (.str x)), some (.val (.str (nesw l))), some (.val (.lst ((MW.walk (ws.map odS) l 1).1.map natD))), some (.val (natD (MW.walk (ws.map odS) l 1).2)), none]) (s1 := s) ?_ (ret_nx (exS_whl d) ?_)
  · simp [startE, exB, exS, evX, evDs, evBs, evBo, evTs, neu, evW, asD, asB, slotB, slotD, frz, treeO, lookO, RS.ofO, RS.bind, RS.toO, O.seq, retO, plainBi, biD, binV, clsD, binD, idxV, tgA, tgAs, tgsLen, cmpV, cmpD, truthV, truthD, isTyD, setT, setL, itemsD, i_ways_round, wo, MW.walk]
  · simp [startE, exB, exS, evX, evDs, evBs, evBo, evTs, neu, evW, asD, asB, slotB, slotD, frz, treeO, lookO, RS.ofO, RS.bind, RS.toO, O.seq, retO, plainBi, biD, binV, clsD, binD, idxV, tgA, tgAs, tgsLen, cmpV, cmpD, truthV, truthD, isTyD, setT, setL, itemsD, i_ways_round]
/-! ### positions -/
/-- a pair, a written one or one of a run -/
def prK (k : Bool) (p : Int × Int) : D := if k then .kt [.int p.1, .int p.2] else prD p
theorem moves_ok {l : Nat} (h : l < 4) : idxD td.it (.kt [(.kt [(.int 0), (.int 1)]), (.kt [(.int 1), (.int 0)]), (.kt [(.int 0), (.int (-1))]), (.kt [(.int (-1)), (.int 0)])]) (natD l) = some (prK true (MW.mv l)) := by
  have q : l = 0 ∨ l = 1 ∨ l = 2 ∨ l = 3 := by omega
  rcases q with rfl | rfl | rfl | rfl <;> rfl
theorem moved_by_k {n : Nat} {k k' : Bool} {p q : Int × Int} {t : Int} {s : Sto} (h1 : mulOk t q.1 = true) (h2 : mulOk t q.2 = true) : callI td.it (n + 1) 21 [prK k p, prK k' q, .int t] [] s = .ok (prD (p.1 + t * q.1, p.2 + t * q.2)) s := by
  have z2 : szOk 2 = true := by decide
  rw [call_fn (fi := i_moved_by) rfl rfl, callF_all rfl]
  cases k <;> cases k' <;> simp [prK, prD, i_moved_by, b_moved_by, startE, exB, exS, evX, evDs, evBs, evBo, evTs, neu, evW, asD, asB, slotB, slotD, frz, treeO, lookO, RS.ofO, RS.bind, RS.toO, O.seq, retO, plainBi, biD, binV, clsD, binD, idxV, tgA, tgAs, tgsLen, cmpV, cmpD, truthV, truthD, isTyD, setT, setL, itemsD, idx_t0, idx_t1, idx_k0, idx_k1, h1, h2, z2]
/-- the squares of a run: the first one as it was given -/
def runD (k : Bool) (st : Int × Int) (gs : Nat → Nat) (m : Nat) : List D := prK k st :: (List.range m).map fun i => prD (MW.pos st gs (i + 1))
theorem runD_succ (k : Bool) (st : Int × Int) (gs : Nat → Nat) (m : Nat) : runD k st gs (m + 1) = runD k st gs m ++ [prD (MW.pos st gs (m + 1))] := by
  simp [runD, List.range_succ]
theorem runD_last (k : Bool) (st : Int × Int) (gs : Nat → Nat) (m : Nat) : L2.atI (runD k st gs m) (-1) = some (if m = 0 then prK k st else prD (MW.pos st gs m)) := by
  cases m with
  | zero => rfl
  | succ m =>
    rw [runD_succ]
    unfold L2.atI L2.ixN
    have hl : (runD k st gs m ++ [prD (MW.pos st gs (m + 1))]).length = m + 2 := by simp [runD]
    rw [hl, if_neg (by omega), if_pos (by omega)]
    have : ((-1 : Int) + ((m + 2 : Nat) : Int)).toNat = m + 1 := by omega
    rw [this]
    simp only [Option.bind_some]
    rw [List.getElem?_append_right (by simp [runD])]
    simp [runD]
theorem pos_loop {n : Nat} {a0 a1 : D} {k : Bool} {st : Int × Int} {gs : Nat → Nat} {s : Sto} (hg : ∀ i, gs i < 4) : ∀ (j m : Nat) (v : Option Sv), m + j ≤ 1000 →
    ∃ v', frGo (frStep [3] false fun e s => exB td.it (callI td.it (n + 1)) (inB (nthS b_positions 1)) e s) ((List.range j).map fun i => natD (gs (m + i))) [some (.val a0), some (.val a1), some (.own (.lst (runD k st gs m))), v] s =
      .nx [some (.val a0), some (.val a1), some (.own (.lst (runD k st gs (m + j)))), v'] s := by
  intro j
  induction j with
  | zero => intro m v _; exact ⟨v, by simp [frGo]⟩
  | succ j ih =>
    intro m v hm
    obtain ⟨v', ih⟩ := ih (m + 1) (some (.val (natD (gs m)))) (by omega)
    refine ⟨v', ?_⟩
    have e : ((List.range (j + 1)).map fun i => natD (gs (m + i))) = natD (gs m) :: (List.range j).map fun i => natD (gs (m + 1 + i)) := by
      rw [List.range_succ_eq_map]
      simp only [List.map_cons, List.map_map, Nat.add_zero]
      congr 1
      apply List.map_congr_left
      intro i _
      simp only [Function.comp]
      congr 2
      omega
    rw [e]
    have g59 : td.it.glob 59 = some (.kt [(.kt [(.int 0), (.int 1)]), (.kt [(.int 1), (.int 0)]), (.kt [(.int 0), (.int (-1))]), (.kt [(.int (-1)), (.int 0)])]) := rfl
    have mo := moves_ok (hg m)
    have la : idxD td.it (.lst (runD k st gs m)) (.int (-1)) = some (prK (if m = 0 then k else false) (MW.pos st gs m)) := by
      show L2.atI _ _ = _
      rw [runD_last]
      by_cases hz : m = 0
      · subst hz; simp [MW.pos]
      · simp [hz, prK]
    have mb := moved_by_k (n := n) (k := if m = 0 then k else false) (k' := true) (p := MW.pos st gs m) (q := MW.mv (gs m)) (t := 1) (s := s) (by unfold mulOk; simp) (by unfold mulOk; simp)
    have ps : prD ((MW.pos st gs m).1 + 1 * (MW.mv (gs m)).1, (MW.pos st gs m).2 + 1 * (MW.mv (gs m)).2) = prD (MW.pos st gs (m + 1)) := by simp only [Int.one_mul, MW.pos]
    rw [ps] at mb
    generalize (if m = 0 then k else false) = kk at la mb
    have zl : szOk (runD k st gs m).length = true := by unfold szOk; simp [runD]; omega
    have body : frStep [3] false (fun e s => exB td.it (callI td.it (n + 1)) (inB (nthS b_positions 1)) e s) (natD (gs m)) [some (.val a0), some (.val a1), some (.own (.lst (runD k st gs m))), v] s = .nx [some (.val a0), some (.val a1), some (.own (.lst (runD k st gs (m + 1)))), some (.val (natD (gs m)))] s := by
      rw [runD_succ]
      simp [frStep, inB, nthS, b_positions, startE, exB, exS, evX, evDs, evBs, evBo, evTs, neu, evW, asD, asB, slotB, slotD, frz, treeO, lookO, RS.ofO, RS.bind, RS.toO, O.seq, retO, plainBi, biD, binV, clsD, binD, idxV, tgA, tgAs, tgsLen, cmpV, cmpD, truthV, truthD, isTyD, setT, setL, itemsD, g59, mo, la, mb, zl]
    unfold frGo
    rw [body]
    dsimp only
    rw [ih]
    rw [show m + 1 + j = m + (j + 1) by omega]
theorem positions_ok {n : Nat} {k : Bool} {st : Int × Int} {gs : Nat → Nat} {s : Sto} {m : Nat} (hg : ∀ i, gs i < 4) (hm : m ≤ 1000) : callI td.it (n + 2) 8 [prK k st, .lst ((List.range m).map fun i => natD (gs i))] [] s = .ok (.lst (runD k st gs m)) s := by
  obtain ⟨v', lp⟩ := pos_loop (n := n) (a0 := prK k st) (a1 := .lst ((List.range m).map fun i => natD (gs i))) (k := k) (st := st) (s := s) hg m 0 none (by omega)
  simp only [Nat.zero_add] at lp
  have z1 : szOk 1 = true := by decide
  rw [call_fn (fi := i_positions) rfl rfl, callF_all rfl]
  refine ret_nx (e1 := [some (.val (prK k st)), some (.val (.lst ((List.range m).map fun i => natD (gs i)))), some (.own (.lst (runD k st gs 0))), none]) (s1 := s) ?_ (ret_nx (exS_fr (s0 := s) ?_ lp) ?_)
  · simp [startE, exB, exS, evX, evDs, evBs, evBo, evTs, neu, evW, asD, asB, slotB, slotD, frz, treeO, lookO, RS.ofO, RS.bind, RS.toO, O.seq, retO, plainBi, biD, binV, clsD, binD, idxV, tgA, tgAs, tgsLen, cmpV, cmpD, truthV, truthD, isTyD, setT, setL, itemsD, i_positions, z1, runD]
  · simp [startE, exB, exS, evX, evDs, evBs, evBo, evTs, neu, evW, asD, asB, slotB, slotD, frz, treeO, lookO, RS.ofO, RS.bind, RS.toO, O.seq, retO, plainBi, biD, binV, clsD, binD, idxV, tgA, tgAs, tgsLen, cmpV, cmpD, truthV, truthD, isTyD, setT, setL, itemsD]
  · simp [startE, exB, exS, evX, evDs, evBs, evBo, evTs, neu, evW, asD, asB, slotB, slotD, frz, treeO, lookO, RS.ofO, RS.bind, RS.toO, O.seq, retO, plainBi, biD, binV, clsD, binD, idxV, tgA, tgAs, tgsLen, cmpV, cmpD, truthV, truthD, isTyD, setT, setL, itemsD, i_positions, mvE]
end K12

set_option Elab.async false
set_option linter.all false
set_option maxRecDepth 100000
set_option maxHeartbeats 410000
namespace K12
open PySem L2 Wk
theorem is_pair_k {n : Nat} {k : Bool} {p : Int × Int} {s : Sto} : callI td.it (n + 2) 25 [prK k p] [] s = .ok (.bl true) s := by
  rw [call_fn (fi := i_is_pair) rfl rfl, callF_all rfl]
  cases k <;> simp [prK, prD, i_is_pair, b_is_pair, startE, exB, exS, evX, evDs, evBs, evBo, evTs, neu, evW, asD, asB, slotB, slotD, frz, treeO, lookO, RS.ofO, RS.bind, RS.toO, O.seq, retO, plainBi, biD, binV, clsD, binD, idxV, tgA, tgAs, tgsLen, cmpV, cmpD, truthV, truthD, isTyD, setT, setL, itemsD, lenD, idx_t0, idx_t1, idx_k0, idx_k1, eqD_int, is_integer_ok]
theorem is_square_k {n : Nat} {k : Bool} {p : Int × Int} {s : Sto} (h1 : -10 ^ 30 ≤ p.1) (h2 : p.1 ≤ 10 ^ 30) (h3 : -10 ^ 30 ≤ p.2) (h4 : p.2 ≤ 10 ^ 30) : callI td.it (n + 3) 19 [prK k p] [] s = .ok (.bl true) s := by
  have g : td.it.glob 69 = some (.int (10 ^ 30)) := rfl
  have p1 : (if p.1 < 0 then -p.1 else p.1) ≤ 10 ^ 30 := by split <;> omega
  have p2 : (if p.2 < 0 then -p.2 else p.2) ≤ 10 ^ 30 := by split <;> omega
  have e := is_pair_k (n := n) (k := k) (p := p) (s := s)
  simp only [Int.reducePow] at p1 p2
  rw [call_fn (fi := i_is_square) rfl rfl, callF_all rfl]
  cases k <;> simp only [prK, prD, Bool.false_eq_true, if_true, if_false] at e <;> simp [prK, prD, i_is_square, b_is_square, startE, exB, exS, evX, evDs, evBs, evBo, evTs, neu, evW, asD, asB, slotB, slotD, frz, treeO, lookO, RS.ofO, RS.bind, RS.toO, O.seq, retO, plainBi, biD, binV, clsD, binD, idxV, tgA, tgAs, tgsLen, cmpV, cmpD, truthV, truthD, isTyD, setT, setL, itemsD, idx_t0, idx_t1, idx_k0, idx_k1, e, g, p1, p2]
theorem check_square_k {n : Nat} {k : Bool} {p : Int × Int} {s : Sto} (h1 : -10 ^ 30 ≤ p.1) (h2 : p.1 ≤ 10 ^ 30) (h3 : -10 ^ 30 ≤ p.2) (h4 : p.2 ≤ 10 ^ 30) : callI td.it (n + 4) 4 [prK k p] [] s = .ok .non s := by
  have e := is_square_k (n := n) (k := k) (s := s) h1 h2 h3 h4
  rw [call_fn (fi := i_check_square) rfl rfl, callF_all rfl]
  simp [i_check_square, b_check_square, startE, exB, exS, evX, evDs, evBs, evBo, evTs, neu, evW, asD, asB, slotB, slotD, frz, treeO, lookO, RS.ofO, RS.bind, RS.toO, O.seq, retO, plainBi, biD, binV, clsD, binD, idxV, tgA, tgAs, tgsLen, cmpV, cmpD, truthV, truthD, isTyD, setT, setL, itemsD, e]
/-- a start: a square, or a plan of one -/
def StD (sd : D) (k : Bool) (st : Int × Int) : Prop := (sd = prK k st ∧ -10 ^ 30 ≤ st.1 ∧ st.1 ≤ 10 ^ 30 ∧ -10 ^ 30 ≤ st.2 ∧ st.2 ≤ 10 ^ 30) ∨ sd = .obj 28 [prK k st]
/-- a walker -/
def wkD (x : Str) (k : Bool) (st : Int × Int) (l : Nat) (gs : Nat → Nat) (p : Nat) : D := .obj 29 [.str x, prK k st, .str (nesw l), .lst ((List.range p).map fun i => natD (gs i)), natD p, .lst (runD k st gs p), prD ((MW.pos st gs p).1 - st.1, (MW.pos st gs p).2 - st.2)]
theorem fol_range {L : List Nat} {gs : Nat → Nat} (h : MW.Fol L gs) : L = (List.range L.length).map gs := by
  apply List.ext_getElem?
  intro i
  by_cases q : i < L.length
  · rw [h i q]
    simp [q]
  · rw [List.getElem?_eq_none (by omega), List.getElem?_eq_none (by simp; omega)]
theorem find_at {c : Nat} {ns : List Nat} {ds : List D} {e : Wk.Env} {f : Nat} : ownFld (some (.own (.ins c ns ds)) :: e) 0 f = findN ns ds f := rfl
theorem walker_core {cl : CallT} {x : Str} {sd : D} {k : Bool} {st : Int × Int} {l p : Nat} {gs : Nat → Nat} {W : List Nat} {s : Sto} (p0 : 0 < p)
    (rd : cl 6 [.str x, .str (nesw l)] [] s = .ok (.lst (W.map natD)) s) (lp : cl 7 [.lst (W.map natD)] [] s = .ok (natD p) s) (ps : cl 8 [prK k st, .lst ((List.range p).map fun i => natD (gs i))] [] s = .ok (.lst (runD k st gs p)) s)
    (ir : cl 3 [.str x] [] s = .ok (.bl true) s) (iw : cl 5 [.str (nesw l)] [] s = .ok (.bl true) s) (hs : (sd = prK k st ∧ cl 4 [prK k st] [] s = .ok .non s) ∨ sd = .obj 28 [prK k st])
    (sl : slcD (.lst (W.map natD)) none (some (p : Int)) = some (.fr (.lst ((List.range p).map fun i => natD (gs i))))) :
    makeK td.it (exB td.it cl b_Walker_init [some (.own (.ins 29 [] [])), some (.val (.str x)), some (.val sd), some (.val (.str (nesw l))), none] s) = .ok (wkD x k st l gs p) s := by
  have c28 : (td.it.cls 28).isSome = true := rfl
  have c29 : td.it.cls 29 = some { flds := [48, 44, 40, 45, 46, 43, 42], init := 1000 } := rfl
  have cc28 : td.it.cls 28 = some { flds := [47], init := 999 } := rfl
  have pr28 : td.it.prop 28 47 = none := rfl
  have lw : lenD (.lst ((List.range p).map fun i => natD (gs i))) = some p := by simp [lenD]
  have la : idxD td.it (.lst (runD k st gs p)) (.int (-1)) = some (prD (MW.pos st gs p)) := by
    show L2.atI _ _ = _
    rw [runD_last, if_neg (by omega)]
  have z2 : szOk 2 = true := by decide
  have i0 : idxD td.it (prK k st) (.int 0) = some (.int st.1) := by cases k <;> rfl
  have i1 : idxD td.it (prK k st) (.int 1) = some (.int st.2) := by cases k <;> rfl
  have j0 : ∀ q, idxD td.it (prD q) (.int 0) = some (.int q.1) := fun _ => rfl
  have j1 : ∀ q, idxD td.it (prD q) (.int 1) = some (.int q.2) := fun _ => rfl
  have nr : ∀ r, idxV td.it cl (prK k st) r s = RS.ofO (idxD td.it (prK k st) r) s := by intro r; cases k <;> rfl
  have cl0 : clsD s (prK k st) = none := by cases k <;> rfl
  have st1 : exS td.it cl (nthS b_Walker_init 1) [some (.own (.ins 29 [] [])), some (.val (.str x)), some (.val sd), some (.val (.str (nesw l))), none] s = .nx [some (.own (.ins 29 [] [])), some (.val (.str x)), some (.val sd), some (.val (.str (nesw l))), none] s := by
    rcases hs with ⟨rfl, ck⟩ | rfl
    · have ic : isClass td.it s 28 (prK k st) = some false := by cases k <;> rfl
      simp [nthS, b_Walker_init, startE, exB, exS, evX, evDs, evBs, evBo, evTs, neu, evW, asD, asB, slotB, slotD, frz, treeO, lookO, RS.ofO, RS.bind, RS.toO, O.seq, retO, plainBi, biD, binV, clsD, binD, idxV, tgA, tgAs, tgsLen, cmpV, cmpD, truthV, truthD, isTyD, setT, setL, itemsD, ic, ck]
    · have ic : isClass td.it s 28 (.obj 28 [prK k st]) = some true := rfl
      simp [nthS, b_Walker_init, startE, exB, exS, evX, evDs, evBs, evBo, evTs, neu, evW, asD, asB, slotB, slotD, frz, treeO, lookO, RS.ofO, RS.bind, RS.toO, O.seq, retO, plainBi, biD, binV, clsD, binD, idxV, tgA, tgAs, tgsLen, cmpV, cmpD, truthV, truthD, isTyD, setT, setL, itemsD, ic]
  have st4 : exS td.it cl (nthS b_Walker_init 4) [some (.own (.ins 29 [48] [.str x])), some (.val (.str x)), some (.val sd), some (.val (.str (nesw l))), none] s = .nx [some (.own (.ins 29 [48, 44] [.str x, prK k st])), some (.val (.str x)), some (.val sd), some (.val (.str (nesw l))), none] s := by
    have fo44 : fldOk td.it 29 44 = true := rfl
    rcases hs with ⟨rfl, ck⟩ | rfl
    · have ic : isClass td.it s 28 (prK k st) = some false := by cases k <;> rfl
      simp [nthS, b_Walker_init, startE, exB, exS, evX, evDs, evBs, evBo, evTs, neu, evW, asD, asB, slotB, slotD, frz, treeO, lookO, RS.ofO, RS.bind, RS.toO, O.seq, retO, plainBi, biD, binV, clsD, binD, idxV, tgA, tgAs, tgsLen, cmpV, cmpD, truthV, truthD, isTyD, setT, setL, itemsD, ic, putN, fo44]
    · have ic : isClass td.it s 28 (.obj 28 [prK k st]) = some true := rfl
      simp [nthS, b_Walker_init, startE, exB, exS, evX, evDs, evBs, evBo, evTs, neu, evW, asD, asB, slotB, slotD, frz, treeO, lookO, RS.ofO, RS.bind, RS.toO, O.seq, retO, plainBi, biD, binV, clsD, binD, idxV, tgA, tgAs, tgsLen, cmpV, cmpD, truthV, truthD, isTyD, setT, setL, itemsD, ic, putN, fo44, attrV, ownOf, ownFld, pr28, cc28, findN]
  have fo48 : fldOk td.it 29 48 = true := rfl
  have fo40 : fldOk td.it 29 40 = true := rfl
  have fo45 : fldOk td.it 29 45 = true := rfl
  have fo46 : fldOk td.it 29 46 = true := rfl
  have fo43 : fldOk td.it 29 43 = true := rfl
  have fo42 : fldOk td.it 29 42 = true := rfl
  refine mk_nx (e1 := [some (.own (.ins 29 [] [])), some (.val (.str x)), some (.val sd), some (.val (.str (nesw l))), none]) (s1 := s) (by simp [startE, exB, exS, evX, evDs, evBs, evBo, evTs, neu, evW, asD, asB, slotB, slotD, frz, treeO, lookO, RS.ofO, RS.bind, RS.toO, O.seq, retO, plainBi, biD, binV, clsD, binD, idxV, tgA, tgAs, tgsLen, cmpV, cmpD, truthV, truthD, isTyD, setT, setL, itemsD, ir]) ?_
  refine mk_nx st1 ?_
  refine mk_nx (e1 := [some (.own (.ins 29 [] [])), some (.val (.str x)), some (.val sd), some (.val (.str (nesw l))), none]) (s1 := s) (by simp [startE, exB, exS, evX, evDs, evBs, evBo, evTs, neu, evW, asD, asB, slotB, slotD, frz, treeO, lookO, RS.ofO, RS.bind, RS.toO, O.seq, retO, plainBi, biD, binV, clsD, binD, idxV, tgA, tgAs, tgsLen, cmpV, cmpD, truthV, truthD, isTyD, setT, setL, itemsD, iw]) ?_
  refine mk_nx (e1 := [some (.own (.ins 29 [48] [.str x])), some (.val (.str x)), some (.val sd), some (.val (.str (nesw l))), none]) (s1 := s) (by simp [startE, exB, exS, evX, evDs, evBs, evBo, evTs, neu, evW, asD, asB, slotB, slotD, frz, treeO, lookO, RS.ofO, RS.bind, RS.toO, O.seq, retO, plainBi, biD, binV, clsD, binD, idxV, tgA, tgAs, tgsLen, cmpV, cmpD, truthV, truthD, isTyD, setT, setL, itemsD, putN, fo48]) ?_
  refine mk_nx st4 ?_
  refine mk_nx (e1 := [some (.own (.ins 29 [48, 44, 40] [.str x, prK k st, .str (nesw l)])), some (.val (.str x)), some (.val sd), some (.val (.str (nesw l))), none]) (s1 := s) (by simp [startE, exB, exS, evX, evDs, evBs, evBo, evTs, neu, evW, asD, asB, slotB, slotD, frz, treeO, lookO, RS.ofO, RS.bind, RS.toO, O.seq, retO, plainBi, biD, binV, clsD, binD, idxV, tgA, tgAs, tgsLen, cmpV, cmpD, truthV, truthD, isTyD, setT, setL, itemsD, putN, fo40]) ?_
  refine mk_nx (e1 := [some (.own (.ins 29 [48, 44, 40] [.str x, prK k st, .str (nesw l)])), some (.val (.str x)), some (.val sd), some (.val (.str (nesw l))), some (.val (.lst (W.map natD)))]) (s1 := s) (by simp [startE, exB, exS, evX, evDs, evBs, evBo, evTs, neu, evW, asD, asB, slotB, slotD, frz, treeO, lookO, RS.ofO, RS.bind, RS.toO, O.seq, retO, plainBi, biD, binV, clsD, binD, idxV, tgA, tgAs, tgsLen, cmpV, cmpD, truthV, truthD, isTyD, setT, setL, itemsD, rd]) ?_
  refine mk_nx (e1 := [some (.own (.ins 29 [48, 44, 40, 45] [.str x, prK k st, .str (nesw l), .lst ((List.range p).map fun i => natD (gs i))])), some (.val (.str x)), some (.val sd), some (.val (.str (nesw l))), some (.val (.lst (W.map natD)))]) (s1 := s) (by have lp' : cl 7 [D.lst (List.map natD W)] [] s = .ok (.int (p : Int)) s := lp; simp [startE, exB, exS, evX, evDs, evBs, evBo, evTs, neu, evW, asD, asB, slotB, slotD, frz, treeO, lookO, RS.ofO, RS.bind, RS.toO, O.seq, retO, plainBi, biD, binV, clsD, binD, idxV, tgA, tgAs, tgsLen, cmpV, cmpD, truthV, truthD, isTyD, setT, setL, itemsD, evO, lp', sl, putN, fo45]) ?_
  refine mk_nx (e1 := [some (.own (.ins 29 [48, 44, 40, 45, 46] [.str x, prK k st, .str (nesw l), .lst ((List.range p).map fun i => natD (gs i)), natD p])), some (.val (.str x)), some (.val sd), some (.val (.str (nesw l))), some (.val (.lst (W.map natD)))]) (s1 := s) (by simp [startE, exB, exS, evX, evDs, evBs, evBo, evTs, neu, evW, asD, asB, slotB, slotD, frz, treeO, lookO, RS.ofO, RS.bind, RS.toO, O.seq, retO, plainBi, biD, binV, clsD, binD, idxV, tgA, tgAs, tgsLen, cmpV, cmpD, truthV, truthD, isTyD, setT, setL, itemsD, ownOf, find_at, findN, lw, putN, fo46]; rfl) ?_
  refine mk_nx (e1 := [some (.own (.ins 29 [48, 44, 40, 45, 46, 43] [.str x, prK k st, .str (nesw l), .lst ((List.range p).map fun i => natD (gs i)), natD p, .lst (runD k st gs p)])), some (.val (.str x)), some (.val sd), some (.val (.str (nesw l))), some (.val (.lst (W.map natD)))]) (s1 := s) (by simp [startE, exB, exS, evX, evDs, evBs, evBo, evTs, neu, evW, asD, asB, slotB, slotD, frz, treeO, lookO, RS.ofO, RS.bind, RS.toO, O.seq, retO, plainBi, biD, binV, clsD, binD, idxV, tgA, tgAs, tgsLen, cmpV, cmpD, truthV, truthD, isTyD, setT, setL, itemsD, ownOf, find_at, findN, ps, putN, fo43]) ?_
  refine mk_nx (e1 := [some (.own (.ins 29 [48, 44, 40, 45, 46, 43, 42] [.str x, prK k st, .str (nesw l), .lst ((List.range p).map fun i => natD (gs i)), natD p, .lst (runD k st gs p), prD ((MW.pos st gs p).1 - st.1, (MW.pos st gs p).2 - st.2)])), some (.val (.str x)), some (.val sd), some (.val (.str (nesw l))), some (.val (.lst (W.map natD)))]) (s1 := s) ?_ ?_
  · have nr2 : ∀ q r, idxV td.it (cl) (prD q) r s = RS.ofO (idxD td.it (prD q) r) s := fun _ _ => rfl
    have nr3 : ∀ q r, idxV td.it (cl) (.lst q) r s = RS.ofO (idxD td.it (.lst q) r) s := fun _ _ => rfl
    simp [startE, exB, exS, evX, evDs, evW, asD, asB, slotB, slotD, frz, treeO, lookO, RS.ofO, RS.bind, RS.toO, binV, clsD, binD, tgA, ownOf, find_at, findN, nr, nr2, nr3, la, i0, i1, j0, j1, putN, fo42, z2]
    rfl
  · simp [exB, makeK, RS.ofO, treeO, lookO, c29, wkD]
theorem walker_body {n : Nat} {x : Str} {ws : List Str} {sd : D} {k : Bool} {st : Int × Int} {l : Nat} {s : Sto} (hx : Spl x ws) (hl : l < 4) (hs : StD sd k st) :
    ∃ p, 0 < p ∧ p ≤ 300 ∧ MW.Per (MW.gl (ws.map odS) l) p ∧ makeK td.it (exB td.it (callI td.it (n + 6)) b_Walker_init [some (.own (.ins 29 [] [])), some (.val (.str x)), some (.val sd), some (.val (.str (nesw l))), none] s) = .ok (wkD x k st l (MW.gl (ws.map odS) l) p) s := by
  have s1 := stps_le hx.2.1
  have s2 := stps_pos hx.2.2.2
  have s3 := hx.2.2.1
  obtain ⟨K, K0, K1, hK, rd⟩ := ways_round_ok (n := n + 4) (s := s) hx hl
  have wl : (MW.walk (ws.map odS) l K).1.length = K * MW.stps (ws.map odS) := MW.walk_len _ _ _
  have fo : MW.Fol (MW.walk (ws.map odS) l K).1 (MW.gl (ws.map odS) l) := MW.fol _ _ s2 _
  have pW : MW.Per (MW.gl (ws.map odS) l) (MW.walk (ws.map odS) l K).1.length := MW.per _ _ _ s2 hK
  generalize (MW.walk (ws.map odS) l K).1 = W at *
  have w0 : 0 < W.length := by rw [wl]; exact Nat.mul_pos (by omega) s2
  have w1 : W.length ≤ 300 := by
    rw [wl]
    have : K * MW.stps (ws.map odS) ≤ 4 * MW.stps (ws.map odS) := Nat.mul_le_mul_right _ K1
    omega
  obtain ⟨p, ⟨p0, pd, pw⟩, lp⟩ := least_period_ok (n := n + 5) (W := W) (s := s) w0 (by omega)
  have pl : p ≤ W.length := Nat.le_of_dvd w0 (Nat.dvd_of_mod_eq_zero pd)
  have pP : MW.Per (MW.gl (ws.map odS) l) p := MW.per_within pW w0 p0 pd fun i hi => by
    have a := pw i hi
    rw [fo _ hi, fo i (by omega)] at a
    exact Option.some.inj a
  refine ⟨p, p0, by omega, pP, ?_⟩
  generalize hgs : MW.gl (ws.map odS) l = gs at *
  have g4 : ∀ i, gs i < 4 := fun i => by rw [← hgs]; exact MW.gl_lt _ _ _
  have tk : (W.map natD).take p = (List.range p).map fun i => natD (gs i) := by
    rw [fol_range fo, List.map_map, ← List.map_take, List.take_range, Nat.min_eq_left pl]
    rfl
  have sl := slc_to (ds := W.map natD) (k := p) (by simp; omega)
  rw [tk] at sl
  have ps := positions_ok (n := n + 4) (k := k) (st := st) (s := s) (m := p) g4 (by omega)
  have ir := is_row_ok (n := n + 4) (s := s) hx.1 hx.2.1 hx.2.2.1 hx.2.2.2
  have iw := is_way_ok (n := n + 5) (s := s) (nesw_mem (l := l))
  refine walker_core p0 rd lp ps ir iw ?_ sl
  rcases hs with ⟨rfl, b1, b2, b3, b4⟩ | rfl
  · exact .inl ⟨rfl, check_square_k (n := n + 2) b1 b2 b3 b4⟩
  · exact .inr rfl
theorem call_cls {n k : Nat} {ci : ClsI} {fi : FnI} {ds vs : List D} {kws : List (Nat × D)} {s : Sto} (h1 : td.it.cls k = some ci) (h2 : td.it.fn ci.init = some fi) (h3 : bindP (fi.pos.drop 1) fi.dfl ds kws = some vs) : callI td.it (n + 1) k ds kws s = makeK td.it (exB td.it (callI td.it n) fi.body (some (.own (.ins k [] [])) :: startE (fi.nloc - 1) vs) s) := by
  show (match td.it.cls k with | some ci => _ | none => _) = _
  rw [h1]
  dsimp only
  rw [h2]
  dsimp only
  unfold makeC
  rw [h3]
theorem walker_ok {n : Nat} {x : Str} {ws : List Str} {sd : D} {k : Bool} {st : Int × Int} {l : Nat} {s : Sto} {ds : List D} {kws : List (Nat × D)} (hb : bindP [48, 44, 40] [(.kt [(.int 0), (.int 0)]), (.str "N")] ds kws = some [.str x, sd, .str (nesw l)]) (hx : Spl x ws) (hl : l < 4) (hs : StD sd k st) :
    ∃ p, 0 < p ∧ p ≤ 300 ∧ MW.Per (MW.gl (ws.map odS) l) p ∧ callI td.it (n + 7) 29 ds kws s = .ok (wkD x k st l (MW.gl (ws.map odS) l) p) s := by
  obtain ⟨p, a, b, c, d⟩ := walker_body (n := n) (s := s) hx hl hs
  refine ⟨p, a, b, c, ?_⟩
  rw [call_cls (ci := { flds := [48, 44, 40, 45, 46, 43, 42], init := 1000 }) (fi := i_Walker_init) rfl rfl hb]
  exact d
end K12

set_option Elab.async false
set_option linter.all false
set_option maxRecDepth 100000
set_option maxHeartbeats 410000
namespace K12
open PySem L2 Wk
/-! ### where a walker stands, how it goes -/
theorem run_at {k : Bool} {st : Int × Int} {gs : Nat → Nat} {m i : Nat} (h : i ≤ m) : L2.atI (runD k st gs m) (i : Int) = some (prK (if i = 0 then k else false) (MW.pos st gs i)) := by
  unfold L2.atI L2.ixN
  have hl : (runD k st gs m).length = m + 1 := by simp [runD]
  rw [hl, if_pos (by omega), if_pos (by omega)]
  simp only [Int.toNat_natCast, Option.bind_some]
  cases i with
  | zero => rfl
  | succ i =>
    simp only [runD, List.getElem?_cons_succ]
    rw [List.getElem?_map, List.getElem?_range (by omega)]
    rfl
theorem mul_big {t : Nat} {d : Int} (h1 : -300 ≤ d) (h2 : d ≤ 300) : mulOk (t : Int) d = true := by
  unfold mulOk
  simp only [Bool.or_eq_true, Bool.and_eq_true, decide_eq_true_eq]
  left; right
  omega
theorem stands_k {n : Nat} {x : Str} {k : Bool} {st : Int × Int} {l : Nat} {gs : Nat → Nat} {p t : Nat} {s : Sto} (p0 : 0 < p) (p1 : p ≤ 300) (hp : MW.Per gs p) : callI td.it (n + 2) 1003 [wkD x k st l gs p, natD t] [] s = .ok (prD (MW.pos st gs t)) s := by
  have c1 : td.it.cls 29 = some { flds := [48, 44, 40, 45, 46, 43, 42], init := 1000 } := rfl
  have c2 : ∀ f, td.it.prop 29 f = none := fun _ => rfl
  have b1 : (0 : Int) < (p : Int) := by omega
  have b2 : (p : Int) < 1073741824 := by omega
  have nr := MW.pos_near (st := st) (g := gs) p
  have e1 : (t : Int) % (p : Int) = ((t % p : Nat) : Int) := by simp
  have e2 : (t : Int) / (p : Int) = ((t / p : Nat) : Int) := by simp
  have ra : idxD td.it (.lst (runD k st gs p)) (.int ((t % p : Nat) : Int)) = some (prK (if t % p = 0 then k else false) (MW.pos st gs (t % p))) := run_at (Nat.le_of_lt (Nat.mod_lt _ p0))
  have mb := moved_by_k (n := n) (k := if t % p = 0 then k else false) (k' := false) (p := MW.pos st gs (t % p)) (q := ((MW.pos st gs p).1 - st.1, (MW.pos st gs p).2 - st.2)) (t := ((t / p : Nat) : Int)) (s := s) (mul_big (by simp only; omega) (by simp only; omega)) (mul_big (by simp only; omega) (by simp only; omega))
  have pm := MW.pos_mod (st := st) hp t
  rw [← pm] at mb
  rw [show prK false ((MW.pos st gs p).1 - st.1, (MW.pos st gs p).2 - st.2) = prD ((MW.pos st gs p).1 - st.1, (MW.pos st gs p).2 - st.2) from rfl] at mb
  rw [call_fn (fi := i_Walker_stands) rfl rfl, callF_all rfl]
  generalize (if t % p = 0 then k else false) = kk at ra mb
  generalize callI td.it (n + 1) = cl at mb ⊢
  simp only [natD] at *
  simp [-Int.natCast_emod, -Int.natCast_ediv, wkD, natD, i_Walker_stands, b_Walker_stands, startE, exB, exS, evX, evDs, evBs, evBo, evTs, neu, evW, asD, asB, slotB, slotD, frz, treeO, lookO, RS.ofO, RS.bind, RS.toO, O.seq, retO, plainBi, biD, binV, clsD, binD, idxV, tgA, tgAs, tgsLen, cmpV, cmpD, truthV, truthD, isTyD, setT, setL, itemsD, attrV, ownOf, ownFld, c1, c2, findN, p0, b1, b2, e1, e2, ra, mb]
theorem at_k {n : Nat} {x : Str} {k : Bool} {st : Int × Int} {l : Nat} {gs : Nat → Nat} {p t : Nat} {s : Sto} (p0 : 0 < p) (p1 : p ≤ 300) (hp : MW.Per gs p) (ht : t ≤ 10 ^ 30) : callI td.it (n + 5) 1001 [wkD x k st l gs p, natD t] [] s = .ok (prD (MW.pos st gs t)) s := by
  have hm : td.it.meth 29 50 = some 1003 := rfl
  have ck := check_time_ok (n := n) (a := (t : Int)) (s := s) (by omega) (by omega)
  have hs : callI td.it (n + 4) 1003 [wkD x k st l gs p, natD t] [] s = _ := stands_k (n := n + 2) (x := x) (k := k) (st := st) (l := l) (t := t) (s := s) p0 p1 hp
  rw [call_fn (fi := i_Walker_at) rfl rfl, callF_all rfl]
  unfold wkD at hs ⊢
  generalize callI td.it (n + 4) = cl at ck hs ⊢
  simp only [natD] at *
  simp [i_Walker_at, b_Walker_at, startE, exB, exS, evX, evDs, evBs, evBo, evTs, neu, evW, asD, asB, slotB, slotD, frz, treeO, lookO, RS.ofO, RS.bind, RS.toO, O.seq, retO, plainBi, biD, binV, clsD, binD, idxV, tgA, tgAs, tgsLen, cmpV, cmpD, truthV, truthD, isTyD, setT, setL, itemsD, methD, hm, ck, hs]
theorem goes_k {n : Nat} {x : Str} {k : Bool} {st : Int × Int} {l : Nat} {gs : Nat → Nat} {p t : Nat} {s : Sto} (p0 : 0 < p) (p1 : p ≤ 300) (hp : MW.Per gs p) (hg : ∀ i, gs i < 4) (ht : t ≤ 10 ^ 30) : callI td.it (n + 5) 1002 [wkD x k st l gs p, natD t] [] s = .ok (.str (nesw (gs t))) s := by
  have c1 : td.it.cls 29 = some { flds := [48, 44, 40, 45, 46, 43, 42], init := 1000 } := rfl
  have c2 : ∀ f, td.it.prop 29 f = none := fun _ => rfl
  have g : td.it.glob 52 = some (.str "NESW") := rfl
  have ck := check_time_ok (n := n) (a := (t : Int)) (s := s) (by omega) (by omega)
  have b1 : (p : Int) ≠ 0 := by omega
  have ef : (t : Int).fmod (p : Int) = ((t % p : Nat) : Int) := by rw [Int.fmod_eq_emod_of_nonneg _ (by omega)]; simp
  have e1 : idxD td.it (.lst ((List.range p).map fun i => natD (gs i))) (.int ((t % p : Nat) : Int)) = some (natD (gs t)) := by
    show L2.atI _ _ = _
    have lt : t % p < p := Nat.mod_lt _ p0
    unfold L2.atI L2.ixN
    rw [if_pos (by omega), if_pos (by simp only [List.length_map, List.length_range]; omega)]
    simp only [Int.toNat_natCast, Option.bind_some]
    rw [List.getElem?_map, List.getElem?_range lt, Option.map_some, hp.mod]
  have lo := look_ok (hg t)
  rw [call_fn (fi := i_Walker_goes) rfl rfl, callF_all rfl]
  generalize callI td.it (n + 4) = cl at ck ⊢
  have b3 : p ≠ 0 := by omega
  simp only [natD] at *
  simp [-Int.natCast_emod, -Int.natCast_ediv, wkD, natD, i_Walker_goes, b_Walker_goes, startE, exB, exS, evX, evDs, evBs, evBo, evTs, neu, evW, asD, asB, slotB, slotD, frz, treeO, lookO, RS.ofO, RS.bind, RS.toO, O.seq, retO, plainBi, biD, binV, clsD, binD, idxV, tgA, tgAs, tgsLen, cmpV, cmpD, truthV, truthD, isTyD, setT, setL, itemsD, attrV, ownOf, ownFld, c1, c2, findN, b3, b1, ef, g, e1, lo, ck]
/-! ### the law's own walk -/
theorem on_k {n : Nat} {p : Int × Int} {l : Nat} {s : Sto} (h : l < 4) : callI td.it (n + 1) 17 [prD p, .str (nesw l), .int 1] [] s = .ok (prD (p.1 + (MW.mv l).1, p.2 + (MW.mv l).2)) s := by
  have e := on_ok (n := n) (x := p.1) (y := p.2) (m := 1) (s := s) (nesw_mem (l := l))
  rw [show prD p = .tup [.int p.1, .int p.2] from rfl, e]
  have q : l = 0 ∨ l = 1 ∨ l = 2 ∨ l = 3 := by omega
  have n1 : nesw 1 ≠ "N" := by decide +kernel
  have n2 : nesw 1 ≠ "S" := by decide +kernel
  have n3 : nesw 2 ≠ "N" := by decide +kernel
  have n4 : nesw 3 ≠ "N" := by decide +kernel
  have n5 : nesw 3 ≠ "S" := by decide +kernel
  have n6 : nesw 3 ≠ "E" := by decide +kernel
  have m0 : nesw 0 = "N" := rfl
  have m1 : nesw 1 = "E" := rfl
  have m2 : nesw 2 = "S" := rfl
  have f : onP p.1 p.2 (nesw l) 1 = (p.1 + (MW.mv l).1, p.2 + (MW.mv l).2) := by
    unfold onP
    rcases q with rfl | rfl | rfl | rfl
    · rw [if_pos m0]; simp [MW.mv]
    · rw [if_neg n1, if_neg n2, if_pos m1]; simp [MW.mv]
    · rw [if_neg n3, if_pos m2]; simp [MW.mv]; omega
    · rw [if_neg n4, if_neg n5, if_neg n6]; simp [MW.mv]; omega
  rw [f]
  rfl
/-- the words by which the law tells turns -/
theorem word_facts : ∀ w ∈ ordL, inD td.it (.str w) (.str "RBL") = some (decide ((odS w).1 ≠ 0)) ∧ (odS w).2 ≤ 9 ∧ (odS w).1 < 4 := by decide +kernel
def sideD (l : Nat) : D := .str (nesw l)
end K12

set_option Elab.async false
set_option linter.all false
set_option maxRecDepth 100000
set_option maxHeartbeats 410000
namespace K12
open PySem L2 Wk
/-! ### steps -/
theorem rep_fm {d : D} : ∀ k : Nat, (rangeD 0 k).filterMap (fun _ => some d) = List.replicate k d := by
  intro k
  unfold rangeD
  rw [fm_some, List.map_map]
  induction k with
  | zero => rfl
  | succ k ih => rw [List.range_succ, List.map_append, ih, List.replicate_succ']; rfl
theorem word_loop {cl : CallT} {a0 a1 a2 : D} {w5 : Option Sv} {s : Sto} : ∀ (ws : List Str) (acc : List Nat) (l : Nat) (w6 : Option Sv), (∀ w ∈ ws, w ∈ ordL) → l < 4 → acc.length + 9 * ws.length ≤ 10000 →
    ∃ w6', frGo (frStep [6] false fun e s => exB td.it cl (inB (nthS (inB (nthS b_law_steps 1)) 0)) e s) (ws.map .str) [some (.val a0), some (.val a1), some (.val a2), some (.val (natD l)), some (.val (.lst (acc.map sideD))), w5, w6, none] s =
      .nx [some (.val a0), some (.val a1), some (.val a2), some (.val (natD (MW.run (ws.map odS) l).2)), some (.val (.lst ((acc ++ (MW.run (ws.map odS) l).1).map sideD))), w5, w6', none] s
  | [], acc, l, w6, _, _, _ => ⟨w6, by simp [frGo, MW.run]⟩
  | w :: ws, acc, l, w6, h, hl, hn => by
    have hw := h w List.mem_cons_self
    obtain ⟨r1, q3, q4⟩ := word_facts w hw
    simp only [List.length_cons] at hn
    have body : frStep [6] false (fun e s => exB td.it cl (inB (nthS (inB (nthS b_law_steps 1)) 0)) e s) (.str w) [some (.val a0), some (.val a1), some (.val a2), some (.val (natD l)), some (.val (.lst (acc.map sideD))), w5, w6, none] s =
        .nx [some (.val a0), some (.val a1), some (.val a2), some (.val (natD ((l + (odS w).1) % 4))), some (.val (.lst ((acc ++ List.replicate (odS w).2 ((l + (odS w).1) % 4)).map sideD))), w5, some (.val (.str w)), none] s := by
      by_cases hq : (odS w).1 = 0
      · have r4 := word_step hw hq
        rw [decide_eq_false (by simp [hq])] at r1
        have lm : (l + (odS w).1) % 4 = l := by rw [hq]; exact Nat.mod_eq_of_lt hl
        rw [lm]
        have z2 : szOk (acc.length + (odS w).2) = true := by unfold szOk; simp; omega
        have z3 : szOk (rangeD 0 (odS w).2).length = true := by unfold szOk rangeD; simp; omega
        have lo := look_ok hl
        have L := lc_val (T := td.it) (cl := cl) (el := .idx (.cst (.str "NESW")) (.loc 3)) (it := .bi .range (.cons (.bi .int (.cons (.loc 6) .nil)) .nil)) (ifs := .nil) (t := [7]) (vs := [7]) (tp := false) (e := [some (.val a0), some (.val a1), some (.val a2), some (.val (natD l)), some (.val (.lst (acc.map sideD))), w5, some (.val (.str w)), none]) (s := s) (ds := rangeD 0 (odS w).2) (f := fun _ => some (sideD l))
          (range_j (xs := [natD (odS w).2]) (by simp [evX, evBs, evW, asB, slotB, RS.ofO, RS.bind, plainBi, r4, frz]) (by simp [rangeOf, natD, b62_small (i := ((odS w).2 : Int)) (by omega) (by omega)])) z3 rfl
          (by intro d hd; simp [lcStep, setT, wipeE, evTs, evX, evW, evDs, asD, asB, slotD, slotB, RS.ofO, RS.bind, neu, frz, idxV, lo, sideD])
        rw [rep_fm] at L
        simp [↓L, frStep, inB, nthS, b_law_steps, startE, exB, exS, evX, evDs, evBs, evW, asD, asB, slotB, slotD, frz, treeO, lookO, RS.ofO, RS.bind, RS.toO, O.seq, plainBi, binV, clsD, binD, cmpV, cmpD, truthV, truthD, tgA, setT, r1, z2]
      · obtain ⟨r4, r5⟩ := word_turn hw hq
        rw [decide_eq_true hq] at r1
        have fm : ((l : Int) + ((odS w).1 : Int)).fmod 4 = (((l + (odS w).1) % 4 : Nat) : Int) := by
          rw [Int.fmod_eq_emod_of_nonneg _ (by omega)]; simp
        rw [r5]
        simp only [natD] at *
        simp [-Int.natCast_emod, frStep, inB, nthS, b_law_steps, startE, exB, exS, evX, evDs, evBs, evW, asD, asB, slotB, slotD, frz, treeO, lookO, RS.ofO, RS.bind, RS.toO, O.seq, plainBi, biD, binV, clsD, binD, idxV, cmpV, cmpD, truthV, truthD, tgA, setT, r1, r4, fm]
    obtain ⟨w6', ih⟩ := word_loop (cl := cl) (a0 := a0) (a1 := a1) (a2 := a2) (w5 := w5) (s := s) ws (acc ++ List.replicate (odS w).2 ((l + (odS w).1) % 4)) ((l + (odS w).1) % 4) (some (.val (.str w))) (fun v hv => h v (List.mem_cons_of_mem _ hv)) (Nat.mod_lt _ (by omega)) (by simp only [List.length_append, List.length_replicate]; omega)
    refine ⟨w6', ?_⟩
    rw [List.map_cons]
    unfold frGo
    rw [body]
    dsimp only
    rw [ih]
    simp only [List.map_cons, MW.run, List.append_assoc]
theorem steps_ok {n : Nat} {x : Str} {ws : List Str} {l many : Nat} {s : Sto} (hx : Spl x ws) (hl : l < 4) (hm : many ≤ 1000) : callI td.it (n + 1) 14 [.str x, sideD l, natD many] [] s = .ok (.lst ((List.range many).map fun i => sideD (MW.gl (ws.map odS) l i))) s := by
  rw [call_fn (fi := i_law_steps) rfl rfl, callF_all rfl]
  generalize callI td.it n = cl
  have s1 := stps_le hx.2.1
  have s2 := stps_pos hx.2.2.2
  have s3 := hx.2.2.1
  have ix := index_ok hl
  have z2 : szOk 2 = true := by decide
  have z0 : szOk 0 = true := by decide
  obtain ⟨e', s', q, rfl, k, w5, w6, rfl, hk, _⟩ := frGo_nx (step := frStep [5] false fun e s => exB td.it cl (inB (nthS b_law_steps 1)) e s)
    (fun rem e s' => s' = s ∧ ∃ k w5 w6, e = [some (.val (.str x)), some (.val (sideD l)), some (.val (natD many)), some (.val (natD (MW.walk (ws.map odS) l k).2)), some (.val (.lst ((MW.walk (ws.map odS) l k).1.map sideD))), w5, w6, none] ∧ (many ≤ (MW.walk (ws.map odS) l k).1.length ∨ many + 1 ≤ k + rem.length) ∧ (MW.walk (ws.map odS) l k).1.length ≤ many + 72)
    (by
      rintro d ds e s' ⟨rfl, k, w5, w6, rfl, hk, hb⟩
      have lk : (MW.walk (ws.map odS) l k).2 < 4 := by rw [MW.walk_look _ _ hl]; exact Nat.mod_lt _ (by omega)
      have ln : lenD (.lst ((MW.walk (ws.map odS) l k).1.map sideD)) = some (MW.walk (ws.map odS) l k).1.length := by simp [lenD]
      by_cases c : (MW.walk (ws.map odS) l k).1.length < many
      · obtain ⟨w6', lp⟩ := word_loop (cl := cl) (a0 := .str x) (a1 := sideD l) (a2 := natD many) (w5 := some (.val d)) (s := s') ws (MW.walk (ws.map odS) l k).1 (MW.walk (ws.map odS) l k).2 w6 hx.2.1 lk (by omega)
        refine ⟨_, _, ?_, rfl, k + 1, some (.val d), w6', rfl, ?_, ?_⟩
        · have c' : ((MW.walk (ws.map odS) l k).1.length : Int) < (many : Int) := by omega
          have ic : (evX td.it cl (.ife (.cmp .Lt (.bi .len (.cons (.loc 4) .nil)) (.loc 2)) (.sm .split (.loc 0) (.cst (.str " "))) (.lst .nil)) [some (.val (.str x)), some (.val (sideD l)), some (.val (natD many)), some (.val (natD (MW.walk (ws.map odS) l k).2)), some (.val (.lst ((MW.walk (ws.map odS) l k).1.map sideD))), some (.val d), w6, none] s').i = .ok (ws.map .str) s' := by
            simp [startE, exB, exS, evX, evDs, evBs, evBo, evTs, neu, evW, asD, asB, slotB, slotD, frz, treeO, lookO, RS.ofO, RS.bind, RS.toO, O.seq, retO, plainBi, biD, binV, clsD, binD, idxV, tgA, tgAs, tgsLen, cmpV, cmpD, truthV, truthD, isTyD, setT, setL, itemsD, ln, natD, c, hx.1]
          simp only [frStep, setT, List.set_cons_succ, List.set_cons_zero]
          exact exB_one (exS_fr (ds := ws.map .str) (s0 := s') ic lp)
        · simp only [List.length_cons] at hk
          rcases hk with hk | hk
          · left
            show many ≤ ((MW.walk (ws.map odS) l k).1 ++ _).length
            rw [List.length_append]; omega
          · right; omega
        · show ((MW.walk (ws.map odS) l k).1 ++ _).length ≤ _
          rw [List.length_append, MW.run_len]; omega
      · refine ⟨_, _, ?_, rfl, k, some (.val d), w6, rfl, .inl (by omega), hb⟩
        have ic : (evX td.it cl (.ife (.cmp .Lt (.bi .len (.cons (.loc 4) .nil)) (.loc 2)) (.sm .split (.loc 0) (.cst (.str " "))) (.lst .nil)) [some (.val (.str x)), some (.val (sideD l)), some (.val (natD many)), some (.val (natD (MW.walk (ws.map odS) l k).2)), some (.val (.lst ((MW.walk (ws.map odS) l k).1.map sideD))), some (.val d), w6, none] s').i = .ok [] s' := by
          have c' : ¬ ((MW.walk (ws.map odS) l k).1.length : Int) < (many : Int) := by omega
          simp [startE, exB, exS, evX, evDs, evBs, evBo, evTs, neu, evW, asD, asB, slotB, slotD, frz, treeO, lookO, RS.ofO, RS.bind, RS.toO, O.seq, retO, plainBi, biD, binV, clsD, binD, idxV, tgA, tgAs, tgsLen, cmpV, cmpD, truthV, truthD, isTyD, setT, setL, itemsD, ln, natD, c, z0]
        simp only [frStep, setT, List.set_cons_succ, List.set_cons_zero]
        exact exB_one (exS_fr (ds := []) (s0 := s') ic rfl))
    (rangeD 0 (many + 1)) [some (.val (.str x)), some (.val (sideD l)), some (.val (natD many)), some (.val (natD l)), some (.val (.lst [])), none, none, none] s
    ⟨rfl, 0, none, none, rfl, .inr (by simp [rangeD]), by simp [MW.walk]⟩
  have len : many ≤ (MW.walk (ws.map odS) l k).1.length := by
    rcases hk with hk | hk
    · exact hk
    · rw [MW.walk_len]
      simp only [List.length_nil] at hk
      calc many ≤ k * 1 := by omega
        _ ≤ k * MW.stps (ws.map odS) := Nat.mul_le_mul_left _ s2
  have sl := slc_to (ds := (MW.walk (ws.map odS) l k).1.map sideD) (k := many) (by simpa using len)
  have tk : ((MW.walk (ws.map odS) l k).1.map sideD).take many = (List.range many).map fun i => sideD (MW.gl (ws.map odS) l i) := by
    rw [fol_range (MW.fol (ws.map odS) l s2 k), List.map_map, ← List.map_take, List.take_range, Nat.min_eq_left len]
    rfl
  rw [tk] at sl
  refine ret_nx (e1 := [some (.val (.str x)), some (.val (sideD l)), some (.val (natD many)), some (.val (natD l)), some (.val (.lst [])), none, none, none]) (s1 := s') ?_ (ret_nx (exS_fr (ds := rangeD 0 (many + 1)) (s0 := s') ?_ q) ?_)
  · simp [startE, exB, exS, evX, evDs, evBs, evBo, evTs, neu, evW, asD, asB, slotB, slotD, frz, treeO, lookO, RS.ofO, RS.bind, RS.toO, O.seq, retO, plainBi, biD, binV, clsD, binD, idxV, tgA, tgAs, tgsLen, cmpV, cmpD, truthV, truthD, isTyD, setT, setL, itemsD, i_law_steps, z0, z2, sideD, ix]
  · refine range_i (xs := [.int ((many : Int) + 1)]) ?_ ?_
    · simp [evX, evBs, evW, asB, slotB, RS.ofO, RS.bind, frz, binV, clsD, binD, natD]
    · have tn : ((many : Int) + 1).toNat = many + 1 := by omega
      simp [rangeOf, b62_small (i := (many : Int) + 1) (by omega) (by omega), tn]
  · simp only [natD] at *
    simp [startE, exB, exS, evX, evDs, evBs, evBo, evTs, neu, evW, asD, asB, slotB, slotD, frz, treeO, lookO, RS.ofO, RS.bind, RS.toO, O.seq, retO, plainBi, biD, binV, clsD, binD, idxV, tgA, tgAs, tgsLen, cmpV, cmpD, truthV, truthD, isTyD, setT, setL, itemsD, i_law_steps, evO, sl]
/-! ### the squares of a walk -/
theorem path_loop {cl : CallT} {a0 a1 a2 a3 : D} {st : Int × Int} {gs : Nat → Nat} {s : Sto} (hc : ∀ p l, l < 4 → cl 17 [prD p, sideD l, .int 1] [] s = .ok (prD (p.1 + (MW.mv l).1, p.2 + (MW.mv l).2)) s) (hg : ∀ i, gs i < 4) : ∀ (j m : Nat) (v : Option Sv), m + j ≤ 1000 →
    ∃ v', frGo (frStep [5] false fun e s => exB td.it cl (inB (nthS b_law_path 1)) e s) ((List.range j).map fun i => sideD (gs (m + i))) [some (.val a0), some (.val a1), some (.val a2), some (.val a3), some (.own (.lst (runD false st gs m))), v] s =
      .nx [some (.val a0), some (.val a1), some (.val a2), some (.val a3), some (.own (.lst (runD false st gs (m + j)))), v'] s := by
  intro j
  induction j with
  | zero => intro m v _; exact ⟨v, by simp [frGo]⟩
  | succ j ih =>
    intro m v hm
    obtain ⟨v', ih⟩ := ih (m + 1) (some (.val (sideD (gs m)))) (by omega)
    refine ⟨v', ?_⟩
    have e : ((List.range (j + 1)).map fun i => sideD (gs (m + i))) = sideD (gs m) :: (List.range j).map fun i => sideD (gs (m + 1 + i)) := by
      rw [List.range_succ_eq_map]
      simp only [List.map_cons, List.map_map, Nat.add_zero]
      congr 1
      apply List.map_congr_left
      intro i _
      simp only [Function.comp]
      congr 2
      omega
    rw [e]
    have la : idxD td.it (.lst (runD false st gs m)) (.int (-1)) = some (prD (MW.pos st gs m)) := by
      show L2.atI _ _ = _
      rw [runD_last]
      by_cases hz : m = 0
      · subst hz; simp [MW.pos, prK]
      · simp [hz]
    have mb := hc (MW.pos st gs m) (gs m) (hg m)
    have ps : prD ((MW.pos st gs m).1 + (MW.mv (gs m)).1, (MW.pos st gs m).2 + (MW.mv (gs m)).2) = prD (MW.pos st gs (m + 1)) := rfl
    rw [ps] at mb
    have zl : szOk (runD false st gs m).length = true := by unfold szOk; simp [runD]; omega
    have body : frStep [5] false (fun e s => exB td.it cl (inB (nthS b_law_path 1)) e s) (sideD (gs m)) [some (.val a0), some (.val a1), some (.val a2), some (.val a3), some (.own (.lst (runD false st gs m))), v] s = .nx [some (.val a0), some (.val a1), some (.val a2), some (.val a3), some (.own (.lst (runD false st gs (m + 1)))), some (.val (sideD (gs m)))] s := by
      rw [runD_succ]
      simp [frStep, inB, nthS, b_law_path, startE, exB, exS, evX, evDs, evBs, evBo, evTs, neu, evW, asD, asB, slotB, slotD, frz, treeO, lookO, RS.ofO, RS.bind, RS.toO, O.seq, retO, plainBi, biD, binV, clsD, binD, idxV, tgA, tgAs, tgsLen, cmpV, cmpD, truthV, truthD, isTyD, setT, setL, itemsD, la, mb, zl]
    unfold frGo
    rw [body]
    dsimp only
    rw [ih]
    rw [show m + 1 + j = m + (j + 1) by omega]
theorem path_ok {n : Nat} {x : Str} {ws : List Str} {l many : Nat} {st : Int × Int} {s : Sto} (hx : Spl x ws) (hl : l < 4) (hm : many ≤ 1000) : callI td.it (n + 2) 23 [.str x, prD st, sideD l, natD many] [] s = .ok (.lst (runD false st (MW.gl (ws.map odS) l) many)) s := by
  have so := steps_ok (n := n) (s := s) hx hl hm
  have on : ∀ p l, l < 4 → callI td.it (n + 1) 17 [prD p, sideD l, .int 1] [] s = .ok (prD (p.1 + (MW.mv l).1, p.2 + (MW.mv l).2)) s := fun p l h => on_k h
  rw [call_fn (fi := i_law_path) rfl rfl, callF_all rfl]
  generalize callI td.it (n + 1) = cl at *
  obtain ⟨v', lp⟩ := path_loop (cl := cl) (a0 := .str x) (a1 := prD st) (a2 := sideD l) (a3 := natD many) (st := st) on (MW.gl_lt (ws.map odS) l) many 0 none (by omega)
  simp only [Nat.zero_add] at lp
  have z1 : szOk 1 = true := by decide
  refine ret_nx (e1 := [some (.val (.str x)), some (.val (prD st)), some (.val (sideD l)), some (.val (natD many)), some (.own (.lst (runD false st (MW.gl (ws.map odS) l) 0))), none]) (s1 := s) ?_ (ret_nx (exS_fr (s0 := s) ?_ lp) ?_)
  · simp [startE, exB, exS, evX, evDs, evBs, evBo, evTs, neu, evW, asD, asB, slotB, slotD, frz, treeO, lookO, RS.ofO, RS.bind, RS.toO, O.seq, retO, plainBi, biD, binV, clsD, binD, idxV, tgA, tgAs, tgsLen, cmpV, cmpD, truthV, truthD, isTyD, setT, setL, itemsD, i_law_path, z1, runD, prK]
  · simp [startE, exB, exS, evX, evDs, evBs, evBo, evTs, neu, evW, asD, asB, slotB, slotD, frz, treeO, lookO, RS.ofO, RS.bind, RS.toO, O.seq, retO, plainBi, biD, binV, clsD, binD, idxV, tgA, tgAs, tgsLen, cmpV, cmpD, truthV, truthD, isTyD, setT, setL, itemsD, so]
  · simp [startE, exB, exS, evX, evDs, evBs, evBo, evTs, neu, evW, asD, asB, slotB, slotD, frz, treeO, lookO, RS.ofO, RS.bind, RS.toO, O.seq, retO, plainBi, biD, binV, clsD, binD, idxV, tgA, tgAs, tgsLen, cmpV, cmpD, truthV, truthD, isTyD, setT, setL, itemsD, i_law_path, mvE]
/-- the steps of a row, told -/
def stepF : D → Option D
  | .str w => if (odS w).1 = 0 then some (natD (odS w).2) else none
  | _ => none
theorem stepF_sum : ∀ {ws : List Str}, (∀ w ∈ ws, w ∈ ordL) → ∃ is, intsD ((ws.map D.str).filterMap stepF) = some is ∧ is.sum = (MW.stps (ws.map odS) : Int)
  | [], _ => ⟨[], rfl, rfl⟩
  | w :: ws, h => by
    obtain ⟨is, a, b⟩ := stepF_sum (ws := ws) fun v hv => h v (List.mem_cons_of_mem _ hv)
    by_cases q : (odS w).1 = 0
    · refine ⟨((odS w).2 : Int) :: is, ?_, ?_⟩
      · simp [-List.filterMap_map, stepF, q, natD, intsD, a]
      · simp [MW.stps, b]
    · have q2 : ∀ w ∈ ordL, (odS w).1 ≠ 0 → (odS w).2 = 0 := by decide +kernel
      refine ⟨is, ?_, ?_⟩
      · simp [-List.filterMap_map, stepF, q, a]
      · simp [MW.stps, b, q2 w (h w List.mem_cons_self) q]
theorem four_ok {n : Nat} {x : Str} {ws : List Str} {s : Sto} (hx : Spl x ws) : callI td.it (n + 1) 24 [.str x] [] s = .ok (natD (4 * MW.stps (ws.map odS))) s := by
  have s1 := stps_le hx.2.1
  have s3 := hx.2.2.1
  have zm : szOk (ws.map D.str).length = true := by unfold szOk; simp; omega
  rw [call_fn (fi := i_law_four) rfl rfl, callF_all rfl]
  generalize callI td.it n = cl
  have L := lc_val (T := td.it) (cl := cl) (el := .bi .int (.cons (.loc 1) .nil)) (it := .sm .split (.loc 0) (.cst (.str " "))) (ifs := .cons (.cmp .NotIn (.loc 1) (.cst (.str "RBL"))) .nil) (t := [1]) (vs := [1]) (tp := false) (e := [some (.val (.str x)), none]) (s := s) (ds := ws.map .str) (f := stepF)
    (by simp [evX, evW, asB, slotB, RS.ofO, RS.bind, itemsD, hx.1, frz, treeO, lookO]) zm rfl
    (by
      intro d hd
      obtain ⟨w, hw, rfl⟩ := List.mem_map.mp hd
      have r1 := (word_facts w (hx.2.1 w hw)).1
      by_cases q : (odS w).1 = 0
      · rw [decide_eq_false (by simp [q])] at r1
        have r4 := word_step (hx.2.1 w hw) q
        simp [lcStep, setT, wipeE, evTs, evX, evW, evBs, asD, asB, slotD, slotB, RS.ofO, RS.bind, neu, frz, cmpV, clsD, cmpD, truthV, truthD, plainBi, r1, r4, stepF, q]
      · rw [decide_eq_true q] at r1
        simp [lcStep, setT, wipeE, evTs, evX, evW, evBs, asD, asB, slotD, slotB, RS.ofO, RS.bind, neu, frz, cmpV, clsD, cmpD, truthV, truthD, plainBi, r1, stepF, q])
  obtain ⟨is, a, b⟩ := stepF_sum hx.2.1
  generalize (ws.map D.str).filterMap stepF = fs at L a
  have mo : mulOk 4 (MW.stps (ws.map odS) : Int) = true := by unfold mulOk; simp
  simp [↓L, i_law_four, b_law_four, startE, exB, exS, evX, evDs, evBs, evBo, evTs, neu, evW, asD, asB, slotB, slotD, frz, treeO, lookO, RS.ofO, RS.bind, RS.toO, O.seq, retO, plainBi, biD, binV, clsD, binD, idxV, tgA, tgAs, tgsLen, cmpV, cmpD, truthV, truthD, isTyD, setT, setL, itemsD, a, b, mo, natD]
theorem some_ok {n : Nat} {x : Str} {ws : List Str} {l : Nat} {st : Int × Int} {s : Sto} (hx : Spl x ws) (hl : l < 4) : callI td.it (n + 3) 13 [.str x, prD st, sideD l] [] s = .ok (.lst (runD false st (MW.gl (ws.map odS) l) (4 * MW.stps (ws.map odS)))) s := by
  have s1 := stps_le hx.2.1
  have s3 := hx.2.2.1
  have fo : callI td.it (n + 2) 24 [.str x] [] s = _ := four_ok (n := n + 1) (s := s) hx
  have pa := path_ok (n := n) (st := st) (s := s) hx hl (many := 4 * MW.stps (ws.map odS)) (by omega)
  rw [call_fn (fi := i_law_some) rfl rfl, callF_all rfl]
  generalize callI td.it (n + 2) = cl at *
  simp [i_law_some, b_law_some, startE, exB, exS, evX, evDs, evBs, evBo, evTs, neu, evW, asD, asB, slotB, slotD, frz, treeO, lookO, RS.ofO, RS.bind, RS.toO, O.seq, retO, plainBi, biD, binV, clsD, binD, idxV, tgA, tgAs, tgsLen, cmpV, cmpD, truthV, truthD, isTyD, setT, setL, itemsD, fo, pa]
end K12

set_option Elab.async false
set_option linter.all false
set_option maxRecDepth 100000
set_option maxHeartbeats 410000
namespace K12
open PySem L2 Wk
/-! ### a drawn row -/
/-- a text, looked at -/
def isStrIn (r : Option Rv) (L : List Str) : Bool := match r with
  | some (.val (.str w)) => decide (w ∈ L)
  | _ => false
theorem isStrIn_eq {r : Option Rv} {L : List Str} (h : isStrIn r L = true) : ∃ w ∈ L, r = some (.val (.str w)) := by
  match r, h with
  | some (.val (.str w)), h => exact ⟨w, of_decide_eq_true h, rfl⟩
theorem digit_ok {r : Int} (h0 : 0 ≤ r) (h1 : r < 9) : ∃ w ∈ stepL, biD .str [.int (1 + r)] = some (.val (.str w)) := by
  have q : ∀ r : Nat, r < 9 → isStrIn (biD .str [.int (1 + (r : Int))]) stepL = true := by decide +kernel
  have := q r.toNat (by omega)
  rw [show ((r.toNat : Nat) : Int) = r by omega] at this
  exact isStrIn_eq this
theorem rlb_ok {r : Int} (h0 : 0 ≤ r) (h1 : r < 3) : ∃ w ∈ ordL, idxD td.it (.str "RLB") (.int r) = some (.str w) := by
  have : r = 0 ∨ r = 1 ∨ r = 2 := by omega
  rcases this with rfl | rfl | rfl
  · exact ⟨"R", by decide +kernel, rfl⟩
  · exact ⟨"L", by decide +kernel, rfl⟩
  · exact ⟨"B", by decide +kernel, rfl⟩
theorem step_ord {w : Str} (h : w ∈ stepL) : w ∈ ordL := by
  have : ∀ w ∈ stepL, w ∈ ordL := by decide +kernel
  exact this w h
theorem ord_step {w : Str} (h : w ∈ ordL) (q : (odS w).1 = 0) : w ∈ stepL := by
  have : ∀ w ∈ ordL, (odS w).1 = 0 → w ∈ stepL := by decide +kernel
  exact this w h q
/-- a cup may be drawn from -/
def Sips (k : Nat) (cl : CallT) : Prop := ∀ (m : Int) (s : Sto), Cup k s → 0 < m → m < 1073741824 → ∃ r s', 0 ≤ r ∧ r < m ∧ Upd k s s' ∧ cl 15 [.ref k, .int m] [] s = .ok (.int r) s'
theorem row_body {cl : CallT} {k : Nat} {d : D} {ws : List Str} {w4 w5 w6 : Option Sv} {s : Sto} (hs : Sips k cl) (hc : Cup k s) (hz : ws.length ≤ 100) : ∃ w v5 v6 s', w ∈ ordL ∧ Upd k s s' ∧
    frStep [4] false (fun e s => exB td.it cl (inB (nthS b_law_row 1)) e s) d [some (.val (.ref k)), some (.val (.int 8)), some (.val (.int 9)), some (.own (.lst (ws.map .str))), w4, w5, w6, none] s =
      .nx [some (.val (.ref k)), some (.val (.int 8)), some (.val (.int 9)), some (.own (.lst ((ws ++ [w]).map .str))), some (.val d), v5, v6, none] s' := by
  have zl : szOk (ws.map D.str).length = true := by unfold szOk; simp; omega
  simp only [List.length_map] at zl
  obtain ⟨kd, s1, k0, k1, u1, e1⟩ := hs 6 s hc (by omega) (by omega)
  have c1 := u1.cup hc
  have ifB : ∃ b s2, (b = true → kd < 3) ∧ Upd k s1 s2 ∧ exS td.it cl (nthS (inB (nthS b_law_row 1)) 1) [some (.val (.ref k)), some (.val (.int 8)), some (.val (.int 9)), some (.own (.lst (ws.map .str))), some (.val d), some (.val (.int kd)), w6, none] s1 = .nx [some (.val (.ref k)), some (.val (.int 8)), some (.val (.int 9)), some (.own (.lst (ws.map .str))), some (.val d), some (.val (.int kd)), some (.val (.bl b)), none] s2 := by
    by_cases q : kd < 2
    · refine ⟨true, s1, fun _ => by omega, Upd.refl c1, ?_⟩
      simp [inB, nthS, b_law_row, startE, exB, exS, evX, evDs, evBs, evBo, evTs, neu, evW, asD, asB, slotB, slotD, frz, treeO, lookO, RS.ofO, RS.bind, RS.toO, O.seq, retO, plainBi, biD, binV, clsD, binD, idxV, tgA, tgAs, tgsLen, cmpV, cmpD, truthV, truthD, isTyD, setT, setL, itemsD, q]
    · by_cases q2 : kd = 2
      · obtain ⟨r, s2, r0, r1, u2, e2⟩ := hs 3 s1 c1 (by omega) (by omega)
        refine ⟨decide (r = 0), s2, fun _ => by omega, u2, ?_⟩
        subst q2
        simp [inB, nthS, b_law_row, startE, exB, exS, evX, evDs, evBs, evBo, evTs, neu, evW, asD, asB, slotB, slotD, frz, treeO, lookO, RS.ofO, RS.bind, RS.toO, O.seq, retO, plainBi, biD, binV, clsD, binD, idxV, tgA, tgAs, tgsLen, cmpV, cmpD, truthV, truthD, isTyD, setT, setL, itemsD, eqD_int, e2]
      · refine ⟨false, s1, nofun, Upd.refl c1, ?_⟩
        simp [inB, nthS, b_law_row, startE, exB, exS, evX, evDs, evBs, evBo, evTs, neu, evW, asD, asB, slotB, slotD, frz, treeO, lookO, RS.ofO, RS.bind, RS.toO, O.seq, retO, plainBi, biD, binV, clsD, binD, idxV, tgA, tgAs, tgsLen, cmpV, cmpD, truthV, truthD, isTyD, setT, setL, itemsD, eqD_int, q, q2]
  obtain ⟨b, s2, hb, u2, e2⟩ := ifB
  have c2 := u2.cup c1
  have ifC : ∃ w s3, w ∈ ordL ∧ Upd k s2 s3 ∧ exS td.it cl (nthS (inB (nthS b_law_row 1)) 2) [some (.val (.ref k)), some (.val (.int 8)), some (.val (.int 9)), some (.own (.lst (ws.map .str))), some (.val d), some (.val (.int kd)), some (.val (.bl b)), none] s2 = .nx [some (.val (.ref k)), some (.val (.int 8)), some (.val (.int 9)), some (.own (.lst ((ws ++ [w]).map .str))), some (.val d), some (.val (.int kd)), some (.val (.bl b)), none] s3 := by
    cases b with
    | true =>
      obtain ⟨w, hw, e⟩ := rlb_ok k0 (hb rfl)
      refine ⟨w, s2, hw, Upd.refl c2, ?_⟩
      simp [inB, nthS, b_law_row, startE, exB, exS, evX, evDs, evBs, evBo, evTs, neu, evW, asD, asB, slotB, slotD, frz, treeO, lookO, RS.ofO, RS.bind, RS.toO, O.seq, retO, plainBi, biD, binV, clsD, binD, idxV, tgA, tgAs, tgsLen, cmpV, cmpD, truthV, truthD, isTyD, setT, setL, itemsD, e, zl]
    | false =>
      obtain ⟨r, s3, r0, r1, u3, e3⟩ := hs 9 s2 c2 (by omega) (by omega)
      obtain ⟨w, hw, e⟩ := digit_ok r0 r1
      refine ⟨w, s3, step_ord hw, u3, ?_⟩
      simp [inB, nthS, b_law_row, startE, exB, exS, evX, evDs, evBs, evW, asD, asB, slotB, slotD, frz, treeO, lookO, RS.ofO, RS.bind, RS.toO, O.seq, plainBi, binV, clsD, binD, truthV, truthD, e, e3, zl]
  obtain ⟨w, s3, hw, u3, e3⟩ := ifC
  refine ⟨w, some (.val (.int kd)), some (.val (.bl b)), s3, hw, (u1.trans u2).trans u3, ?_⟩
  simp only [frStep, setT, List.set_cons_succ, List.set_cons_zero]
  refine exB_nx (e1 := [some (.val (.ref k)), some (.val (.int 8)), some (.val (.int 9)), some (.own (.lst (ws.map .str))), some (.val d), some (.val (.int kd)), w6, none]) (s1 := s1) ?_ (exB_nx e2 (exB_one e3))
  simp [startE, exB, exS, evX, evDs, evBs, evBo, evTs, neu, evW, asD, asB, slotB, slotD, frz, treeO, lookO, RS.ofO, RS.bind, RS.toO, O.seq, retO, plainBi, biD, binV, clsD, binD, idxV, tgA, tgAs, tgsLen, cmpV, cmpD, truthV, truthD, isTyD, setT, setL, itemsD, e1]
theorem join_len : ∀ {ws : List Str}, (∀ w ∈ ws, w ∈ ordL) → (Txt.join (Str.ofString " ") ws).length ≤ 2 * ws.length := by
  intro ws h
  rw [TL.join_eq, TL.len_tl, TL.tl_join]
  have s1 : (TL.tl (Str.ofString " ")).length = 1 := by decide +kernel
  have o1 : ∀ w ∈ ordL, (TL.tl w).length = 1 := by decide +kernel
  have go : ∀ (ws : List Str), (∀ w ∈ ws, w ∈ ordL) → (TL.joinL (TL.tl (Str.ofString " ")) (ws.map TL.tl)).length ≤ 2 * ws.length := by
    intro ws
    induction ws with
    | nil => intro _; simp [TL.joinL]
    | cons w ws ih =>
      intro h
      have hw := o1 w (h w List.mem_cons_self)
      have ih := ih fun v hv => h v (List.mem_cons_of_mem _ hv)
      cases ws with
      | nil => simp [TL.joinL, hw]
      | cons v ws =>
        simp only [List.map_cons, TL.joinL, List.length_append, s1, hw, List.length_cons] at ih ⊢
        omega
  exact go ws h
theorem spl_join {ws : List Str} (h0 : ws ≠ []) (h : ∀ w ∈ ws, w ∈ ordL) (hl : ws.length ≤ 8) (hs : ∃ w ∈ ws, w ∈ stepL) : Spl (Txt.join (Str.ofString " ") ws) ws := by
  refine ⟨?_, h, hl, hs⟩
  have jl := join_len h
  have z : szOk (Txt.join (Str.ofString " ") ws).length = true := by unfold szOk; simp; omega
  have sp := split_ords h0 h
  have l1 : (Str.ofString " ").length ≠ 0 := by decide +kernel
  simp [smD, z, sp, l1]
theorem strsD_map : ∀ ws : List Str, strsD (ws.map .str) = some ws
  | [] => rfl
  | w :: ws => by simp [strsD, strsD_map ws]
theorem rlb_map : ∀ {ws : List Str}, (∀ w ∈ ws, w ∈ ordL) → (ws.map D.str).filterMap (fun d => (inD td.it d (.str "RLB")).map D.bl) = ws.map fun w => D.bl ((fun w => decide ((odS w).1 ≠ 0)) w)
  | [], _ => rfl
  | w :: ws, h => by
    have q : ∀ w ∈ ordL, inD td.it (.str w) (.str "RLB") = some (decide ((odS w).1 ≠ 0)) := by decide +kernel
    have ih := rlb_map (ws := ws) fun v hv => h v (List.mem_cons_of_mem _ hv)
    rw [List.map_cons, List.filterMap_cons, q w (h w List.mem_cons_self), ih]
    rfl
theorem row_ok {n k : Nat} {s : Sto} (hc : Cup k s) : ∃ x ws s', Spl x ws ∧ Upd k s s' ∧ callI td.it (n + 2) 10 [.ref k, .int 8, .int 9] [] s = .ok (.str x) s' := by
  have hs : Sips k (callI td.it (n + 1)) := fun m s h h0 h1 => sip h h0 h1
  have cf : ∀ s, callI td.it (n + 2) 10 [.ref k, .int 8, .int 9] [] s = _ := fun s => (call_fn (fi := i_law_row) rfl rfl).trans (callF_all rfl)
  generalize callI td.it (n + 1) = cl at *
  obtain ⟨r, s1, r0, r1, u1, e1⟩ := hs 8 s hc (by omega) (by omega)
  have c1 := u1.cup hc
  obtain ⟨e', s2, q, ws, w4, w5, w6, rfl, ho, hlen, u2, c2⟩ := frGo_nx (step := frStep [4] false fun e s => exB td.it cl (inB (nthS b_law_row 1)) e s)
    (fun rem e s' => ∃ ws w4 w5 w6, e = [some (.val (.ref k)), some (.val (.int 8)), some (.val (.int 9)), some (.own (.lst (ws.map .str))), w4, w5, w6, none] ∧ (∀ w ∈ ws, w ∈ ordL) ∧ ws.length + rem.length = (1 + r).toNat ∧ Upd k s1 s' ∧ Cup k s')
    (by
      rintro d ds e s' ⟨ws, w4, w5, w6, rfl, ho, hl, u, c⟩
      simp only [List.length_cons] at hl
      obtain ⟨w, v5, v6, s'', hw, u', e⟩ := row_body (d := d) (ws := ws) (w4 := w4) (w5 := w5) (w6 := w6) hs c (by omega)
      refine ⟨_, s'', e, ws ++ [w], _, _, _, rfl, ?_, ?_, u.trans u', u'.cup c⟩
      · intro v hv
        rcases List.mem_append.mp hv with hv | hv
        · exact ho v hv
        · rw [List.mem_singleton.mp hv]; exact hw
      · rw [List.length_append]; simp only [List.length_cons, List.length_nil]; omega)
    (rangeD 0 (1 + r).toNat) [some (.val (.ref k)), some (.val (.int 8)), some (.val (.int 9)), some (.own (.lst [])), none, none, none, none] s1
    ⟨[], none, none, none, rfl, by simp, by simp [rangeD], Upd.refl c1, c1⟩
  simp only [List.length_nil, Nat.add_zero] at hlen
  have l0 : 0 < ws.length := by omega
  have l8 : ws.length ≤ 8 := by omega
  have ne : ws ≠ [] := by rintro rfl; simp at l0
  have zm : szOk (ws.map D.str).length = true := by unfold szOk; simp; omega
  have z0 : szOk 0 = true := by decide
  have tail : ∃ (vs : List Str) (s3 : Sto), (∀ w ∈ vs, w ∈ ordL) ∧ vs.length = ws.length ∧ (∃ w ∈ vs, w ∈ stepL) ∧ Upd k s2 s3 ∧ exS td.it cl (nthS b_law_row 2) [some (.val (.ref k)), some (.val (.int 8)), some (.val (.int 9)), some (.own (.lst (ws.map .str))), w4, w5, w6, none] s2 = .nx [some (.val (.ref k)), some (.val (.int 8)), some (.val (.int 9)), some (.own (.lst (vs.map .str))), w4, w5, w6, none] s3 := by
    have L := lc_val (T := td.it) (cl := cl) (el := .cmp .In (.loc 7) (.cst (.str "RLB"))) (it := .loc 3) (ifs := .nil) (t := [7]) (vs := [7]) (tp := false) (e := [some (.val (.ref k)), some (.val (.int 8)), some (.val (.int 9)), some (.own (.lst (ws.map .str))), w4, w5, w6, none]) (s := s2) (ds := ws.map .str) (f := fun d => (inD td.it d (.str "RLB")).map .bl)
      (by simp [evX, evW, asB, slotB, RS.ofO, RS.bind, itemsD, treeO, lookO]) zm rfl
      (by
        intro d hd
        obtain ⟨w, hw, rfl⟩ := List.mem_map.mp hd
        have : ∀ w ∈ ordL, inD td.it (.str w) (.str "RLB") = some (decide ((odS w).1 ≠ 0)) := by decide +kernel
        have := this w (ho w hw)
        simp [lcStep, setT, wipeE, evTs, evX, evW, evDs, asD, asB, slotD, slotB, RS.ofO, RS.bind, neu, frz, cmpV, clsD, cmpD, this])
    have B := rlb_map ho
    rw [B] at L
    have a : blsD (ws.map fun w => D.bl ((fun w => decide ((odS w).1 ≠ 0)) w)) = some (ws.map fun w => decide ((odS w).1 ≠ 0)) := blsD_map _ ws
    simp only at L a
    generalize (ws.map fun w => D.bl (decide ((odS w).1 ≠ 0))) = bs at L a
    by_cases all : ∀ w ∈ ws, (odS w).1 ≠ 0
    · have al : (ws.map fun w => decide ((odS w).1 ≠ 0)).all id = true := by simp only [List.all_map, List.all_eq_true]; intro w hw; simpa using all w hw
      obtain ⟨r2, s3, p0, p1, u3, e3⟩ := hs 9 s2 c2 (by omega) (by omega)
      obtain ⟨v, hv, ev⟩ := digit_ok p0 p1
      obtain ⟨i, s4, i0, i1, u4, e4⟩ := hs ws.length s3 (u3.cup c2) (by omega) (by omega)
      have ix : L2.ixN ws.length i = some i.toNat := by unfold L2.ixN; simp [i0, i1]
      have ln : lenD (.lst (ws.map D.str)) = some ws.length := by simp [lenD]
      refine ⟨ws.set i.toNat v, s4, ?_, by simp, ⟨v, ?_, hv⟩, u3.trans u4, ?_⟩
      · intro w hw
        rcases List.mem_or_eq_of_mem_set hw with hw | rfl
        · exact ho w hw
        · exact step_ord hv
      · exact List.mem_set (show i.toNat < ws.length by omega) _
      · simp only [nthS, b_law_row]
        generalize he : (ws.map fun w => decide ((odS w).1 ≠ 0)) = as at a al
        have b1 : biD .all [.lst bs] = some (.val (.bl true)) := by simp [biD, a, al]
        have b2 : biD .len [.lst (ws.map D.str)] = some (.val (.int ws.length)) := by simp [biD, ln]
        simp [↓L, exB, exS, evX, evDs, evBs, evW, asD, asB, slotB, slotD, frz, treeO, lookO, RS.ofO, RS.bind, RS.toO, O.seq, plainBi, binV, clsD, binD, truthV, truthD, tgA, b1, b2, e3, ev, e4, ix, List.map_set]
    · have al : (ws.map fun w => decide ((odS w).1 ≠ 0)).all id = false := by
        rw [← Bool.not_eq_true]
        intro h
        simp only [List.all_map, List.all_eq_true] at h
        exact all fun w hw => by simpa using h w hw
      have ex : ∃ w ∈ ws, w ∈ stepL := by
        rw [Classical.not_forall] at all
        obtain ⟨w, q⟩ := all
        obtain ⟨hw, q⟩ := Classical.not_imp.mp q
        exact ⟨w, hw, ord_step (ho w hw) (by omega)⟩
      refine ⟨ws, s2, ho, rfl, ex, Upd.refl c2, ?_⟩
      generalize he : (ws.map fun w => decide ((odS w).1 ≠ 0)) = as at a al
      simp [↓L, nthS, b_law_row, startE, exB, exS, evX, evDs, evBs, evBo, evTs, neu, evW, asD, asB, slotB, slotD, frz, treeO, lookO, RS.ofO, RS.bind, RS.toO, O.seq, retO, plainBi, biD, binV, clsD, binD, idxV, tgA, tgAs, tgsLen, cmpV, cmpD, truthV, truthD, isTyD, setT, setL, itemsD, a, al]
  obtain ⟨vs, s3, ho3, hl3, hx3, u3, e3⟩ := tail
  have ne3 : vs ≠ [] := by rintro rfl; simp at hl3; omega
  refine ⟨Txt.join (Str.ofString " ") vs, vs, s3, spl_join ne3 ho3 (by omega) hx3, (u1.trans u2).trans u3, ?_⟩
  rw [cf]
  refine ret_nx (e1 := [some (.val (.ref k)), some (.val (.int 8)), some (.val (.int 9)), some (.own (.lst [])), none, none, none, none]) (s1 := s) ?_ (ret_nx (exS_fr (ds := rangeD 0 (1 + r).toNat) (s0 := s1) ?_ q) (ret_nx e3 ?_))
  · simp [startE, exB, exS, evX, evDs, evBs, evBo, evTs, neu, evW, asD, asB, slotB, slotD, frz, treeO, lookO, RS.ofO, RS.bind, RS.toO, O.seq, retO, plainBi, biD, binV, clsD, binD, idxV, tgA, tgAs, tgsLen, cmpV, cmpD, truthV, truthD, isTyD, setT, setL, itemsD, i_law_row, z0]
  · refine range_i2 (xs := [.int (1 + r)]) ?_ ?_
    · simp [evX, evBs, evDs, evW, asD, asB, slotB, slotD, RS.ofO, RS.bind, frz, binV, clsD, binD, e1]
    · simp [rangeOf, b62_small (i := 1 + r) (by omega) (by omega)]
  · have sj : smD .join " " (.lst (vs.map .str)) = some (.val (.str (Txt.join (Str.ofString " ") vs))) := by
      have o1 : ∀ w ∈ ordL, w.length = 1 := by decide +kernel
      have sm : ∀ vs : List Str, (∀ w ∈ vs, w ∈ ordL) → (vs.map (·.length)).sum = vs.length := by
        intro vs
        induction vs with
        | nil => intro _; rfl
        | cons v vs ih => intro h; simp [o1 v (h v List.mem_cons_self), ih fun w hw => h w (List.mem_cons_of_mem _ hw)]; omega
      have s1 : (Str.ofString " ").length = 1 := by decide +kernel
      have z : szOk ((vs.map (·.length)).sum + vs.length * (Str.ofString " ").length) = true := by
        rw [sm vs ho3, s1]; unfold szOk; simp; omega
      simp only [smD, strsD_map, Option.bind_some, z, if_true]
    simp [startE, exB, exS, evX, evDs, evBs, evBo, evTs, neu, evW, asD, asB, slotB, slotD, frz, treeO, lookO, RS.ofO, RS.bind, RS.toO, O.seq, retO, plainBi, biD, binV, clsD, binD, idxV, tgA, tgAs, tgsLen, cmpV, cmpD, truthV, truthD, isTyD, setT, setL, itemsD, i_law_row, sj]
end K12

set_option Elab.async false
set_option linter.all false
set_option maxRecDepth 100000
set_option maxHeartbeats 410000
namespace K12
open PySem L2 Wk
/-! ### the cup -/
theorem cup_loop {cl : CallT} {a0 a1 : D} {s : Sto} : ∀ (is : List Int) (c : Int) (v : Option Sv), ∃ c' v', frGo (frStep [3] false fun e s => exB td.it cl (inB (nthS b_law_cup 1)) e s) (is.map .int) [some (.val a0), some (.val a1), some (.val (.int c)), v] s = .nx [some (.val a0), some (.val a1), some (.val (.int c')), v'] s
  | [], c, v => ⟨c, v, rfl⟩
  | i :: is, c, v => by
    obtain ⟨c', v', ih⟩ := cup_loop (cl := cl) (a0 := a0) (a1 := a1) (s := s) is ((c * 31 + i).fmod 1000000007) (some (.val (.int i)))
    refine ⟨c', v', ?_⟩
    have m1 : mulOk c 31 = true := by unfold mulOk; simp
    have body : frStep [3] false (fun e s => exB td.it cl (inB (nthS b_law_cup 1)) e s) (.int i) [some (.val a0), some (.val a1), some (.val (.int c)), v] s = .nx [some (.val a0), some (.val a1), some (.val (.int ((c * 31 + i).fmod 1000000007))), some (.val (.int i))] s := by
      simp [frStep, inB, nthS, b_law_cup, startE, exB, exS, evX, evDs, evBs, evBo, evTs, neu, evW, asD, asB, slotB, slotD, frz, treeO, lookO, RS.ofO, RS.bind, RS.toO, O.seq, retO, plainBi, biD, binV, clsD, binD, idxV, tgA, tgAs, tgsLen, cmpV, cmpD, truthV, truthD, isTyD, setT, setL, itemsD, m1]
    rw [List.map_cons]
    unfold frGo
    rw [body]
    exact ih
theorem cup_ok {n : Nat} {sc : D} {ns : List Int} {j : Nat} {s : Sto} (hsc : ScD sc ns) (hj : j ≤ 63) : ∃ a b : Int, callI td.it (n + 1) 2 [sc, natD j] [] s = .ok (.ref s.length) (s ++ [.lst [.int a, .int b]]) := by
  have cf : callI td.it (n + 1) 2 [sc, natD j] [] s = _ := (call_fn (fi := i_law_cup) rfl rfl).trans (callF_all rfl)
  generalize callI td.it n = cl at *
  have ln : lenD sc = some ns.length := by rcases hsc with rfl | rfl <;> simp [lenD]
  have ix : ∀ i, idxD td.it sc (.int i) = L2.atI (ns.map .int) i := by intro i; rcases hsc with rfl | rfl <;> rfl
  have iv : ∀ r, idxV td.it cl sc r s = RS.ofO (idxD td.it sc r) s := by intro r; rcases hsc with rfl | rfl <;> rfl
  have sl : ∃ is : List Int, slcD sc none (some 2) = some (.fr (.lst (is.map .int))) := by
    refine ⟨ns.take 2, ?_⟩
    have e : HT.sIx ns.length ns.length (some 2) = min 2 ns.length := HT.sIx_nat _ _ 2
    have t : (ns.map D.int).take (min 2 ns.length) = (ns.take 2).map D.int := by
      rw [← List.map_take]
      congr 1
      rw [List.take_eq_take_iff]
      omega
    rcases hsc with rfl | rfl <;> simp [slcD, e, HT.sIx_none, t]
  obtain ⟨is, sl⟩ := sl
  have m1 : mulOk 7919 (j : Int) = true := by unfold mulOk; simp
  have m2 : ∀ c : Int, mulOk c 4099 = true := by intro c; unfold mulOk; simp
  have m3 : mulOk 271 (j : Int) = true := by unfold mulOk; simp
  have z2 : szOk 2 = true := by decide
  have z0 : szOk 0 = true := by decide
  have first : ∃ c : Int, exS td.it cl (nthS b_law_cup 0) [some (.val sc), some (.val (natD j)), none, none] s = .nx [some (.val sc), some (.val (natD j)), some (.val (.int c)), none] s := by
    by_cases q : j < ns.length
    · obtain ⟨c, hc⟩ : ∃ c, L2.atI (ns.map D.int) (j : Int) = some (.int c) := by
        refine ⟨ns[j], ?_⟩
        unfold L2.atI L2.ixN
        rw [if_pos (by omega), if_pos (by simp only [List.length_map]; omega)]
        simp [q]
      refine ⟨c, ?_⟩
      have q' : (j : Int) < (ns.length : Int) := by omega
      simp only [natD]
      simp [nthS, b_law_cup, startE, exB, exS, evX, evDs, evBs, evW, asD, asB, slotB, slotD, frz, treeO, lookO, RS.ofO, RS.bind, RS.toO, O.seq, plainBi, biD, binV, clsD, binD, cmpV, cmpD, truthV, truthD, tgA, ln, ix, iv, hc, q]
    · refine ⟨7919 * j + 104729, ?_⟩
      simp only [natD]
      simp [nthS, b_law_cup, startE, exB, exS, evX, evDs, evBs, evW, asD, asB, slotB, slotD, frz, treeO, lookO, RS.ofO, RS.bind, RS.toO, O.seq, plainBi, biD, binV, clsD, binD, cmpV, cmpD, truthV, truthD, tgA, ln, q, m1]
  obtain ⟨c, e0⟩ := first
  have second : ∃ (c' : Int) (v' : Option Sv), exS td.it cl (nthS b_law_cup 1) [some (.val sc), some (.val (natD j)), some (.val (.int c)), none] s = .nx [some (.val sc), some (.val (natD j)), some (.val (.int c')), v'] s := by
    by_cases q : j < ns.length
    · refine ⟨c, none, exS_fr (ds := []) (s0 := s) ?_ rfl⟩
      have q' : ¬ ns.length ≤ j := by omega
      simp only [natD]
      simp [evX, evDs, evBs, evW, asD, asB, slotB, slotD, frz, treeO, lookO, RS.ofO, RS.bind, plainBi, biD, binV, clsD, cmpV, cmpD, truthV, truthD, itemsD, ln, q', z0]
    · obtain ⟨c', v', lp⟩ := cup_loop (cl := cl) (a0 := sc) (a1 := natD j) (s := s) is c none
      refine ⟨c', v', exS_fr (ds := is.map .int) (s0 := s) ?_ lp⟩
      have q' : ns.length ≤ j := by omega
      simp only [natD]
      simp [evX, evDs, evBs, evW, evO, asD, asB, slotB, slotD, frz, treeO, lookO, RS.ofO, RS.bind, plainBi, biD, binV, clsD, cmpV, cmpD, truthV, truthD, itemsD, ln, q', sl]
  obtain ⟨c', v', e1⟩ := second
  rw [cf]
  by_cases q2 : c' < 0
  · refine ⟨(c' * 4099 + 271 * (j : Int) + 17).fmod 2147483629, -c', ret_nx e0 (ret_nx e1 ?_)⟩
    simp only [natD]
    simp [startE, exB, exS, evX, evDs, evBs, evTs, neu, evW, asD, asB, slotB, slotD, frz, treeO, lookO, RS.ofO, RS.bind, RS.toO, O.seq, retO, plainBi, biD, binV, clsD, binD, cmpV, cmpD, truthV, truthD, i_law_cup, m2, m3, z2, q2]
  · by_cases q3 : 1000000000000000000 ≤ c'
    · refine ⟨(c' * 4099 + 271 * (j : Int) + 17).fmod 2147483629, c', ret_nx e0 (ret_nx e1 ?_)⟩
      simp only [natD]
      simp [startE, exB, exS, evX, evDs, evBs, evTs, neu, evW, asD, asB, slotB, slotD, frz, treeO, lookO, RS.ofO, RS.bind, RS.toO, O.seq, retO, plainBi, biD, binV, clsD, binD, cmpV, cmpD, truthV, truthD, i_law_cup, m2, m3, z2, q2, q3]
    · refine ⟨(c' * 4099 + 271 * (j : Int) + 17).fmod 2147483629, 0, ret_nx e0 (ret_nx e1 ?_)⟩
      simp only [natD]
      simp [startE, exB, exS, evX, evDs, evBs, evTs, neu, evW, asD, asB, slotB, slotD, frz, treeO, lookO, RS.ofO, RS.bind, RS.toO, O.seq, retO, plainBi, biD, binV, clsD, binD, cmpV, cmpD, truthV, truthD, i_law_cup, m2, m3, z2, q2, q3]
end K12

set_option Elab.async false
set_option linter.all false
set_option maxRecDepth 100000
set_option maxHeartbeats 410000
namespace K12
open PySem L2 Wk
/-! ### one cup's walks -/
theorem eqD_pr (p : Int × Int) : eqD (prD p) (prD p) = some true := by
  have a : SeqAt.shaped (.tuple [.int p.1, .int p.2]) = true := by simp [SeqAt.shaped, PyData.canLay0, PyData.canLayAll0, PyData.depth, PyData.depthAll]
  simp [eqD, prD, toPy, toPys, a, PyData.eqv, PyData.eqvAll]
theorem eqD_side (l : Nat) : eqD (sideD l) (sideD l) = some true := by
  have a : PyData.strOk (nesw l) = true := by unfold nesw; split <;> decide +kernel
  simp [eqD, sideD, toPy, SeqAt.shaped, PyData.canLay0, PyData.depth, PyData.eqv, a]
theorem cD_bl {s : Sto} {b : Bool} : clsD s (.bl b) = none := rfl
theorem cD_int {s : Sto} {b : Int} : clsD s (.int b) = none := rfl
theorem cD_str {s : Sto} {b : Str} : clsD s (.str b) = none := rfl
theorem cD_lst {s : Sto} {b : List D} : clsD s (.lst b) = none := rfl
theorem cD_pr {s : Sto} {p : Int × Int} : clsD s (prD p) = none := rfl
theorem cD_side {s : Sto} {l : Nat} : clsD s (sideD l) = none := rfl
theorem cD_nat {s : Sto} {l : Nat} : clsD s (natD l) = none := rfl
/-- all that a law asks of a walker and its own walk -/
structure Good (cl : CallT) (k : Nat) (W : D) (st : Int × Int) (gs : Nat → Nat) (S : Nat) : Prop where
  sip : Sips k cl
  pick : ∀ (ds : List D) (s : Sto), Cup k s → 0 < ds.length → ds.length < 100 → ∃ d s', d ∈ ds ∧ Upd k s s' ∧ cl 12 [.ref k, .lst ds] [] s = .ok d s'
  at_ : ∀ (t : Nat) s, t ≤ 10 ^ 30 → cl 1001 [W, natD t] [] s = .ok (prD (MW.pos st gs t)) s
  atk : ∀ (t : Nat) s, t ≤ 10 ^ 30 → cl 1001 [W] [(51, natD t)] s = .ok (prD (MW.pos st gs t)) s
  go : ∀ (t : Nat) s, t ≤ 10 ^ 30 → cl 1002 [W, natD t] [] s = .ok (sideD (gs t)) s
  gok : ∀ (t : Nat) s, t ≤ 10 ^ 30 → cl 1002 [W] [(51, natD t)] s = .ok (sideD (gs t)) s
  far : ∀ (t : Nat) s, t ≤ 10 ^ 30 → cl 16 [.lst (runD false st gs S), natD t] [] s = .ok (prD (MW.pos st gs t)) s
  on : ∀ p l s, l < 4 → cl 17 [prD p, sideD l, .int 1] [] s = .ok (prD (p.1 + (MW.mv l).1, p.2 + (MW.mv l).2)) s
  m39 : ∀ s, methD td.it s W 39 = some 1001
  m38 : ∀ s, methD td.it s W 38 = some 1002
  s0 : 0 < S
  s1 : S ≤ 300
  g4 : ∀ i, gs i < 4
  per : MW.Per gs S
theorem side_at {gs : Nat → Nat} {S t : Nat} (h : t < S) : idxD td.it (.lst ((List.range S).map fun i => sideD (gs i))) (natD t) = some (sideD (gs t)) := by
  show L2.atI _ _ = _
  unfold L2.atI L2.ixN
  rw [if_pos (by omega), if_pos (by simp only [List.length_map, List.length_range]; omega)]
  simp [h]
theorem some_at {st : Int × Int} {gs : Nat → Nat} {S t : Nat} (h : t ≤ S) : idxD td.it (.lst (runD false st gs S)) (natD t) = some (prD (MW.pos st gs t)) := by
  show L2.atI _ _ = _
  rw [run_at h]
  simp [prK]
theorem near_body {cl : CallT} {k : Nat} {W : D} {st : Int × Int} {gs : Nat → Nat} {S t : Nat} {w0 w1 w2 w3 w4 w8 w9 w10 w11 w12 : Option Sv} {s : Sto} (G : Good cl k W st gs S) (ht : t < S) :
    frStep [9] false (fun e s => exB td.it cl (inB (nthS (inB (nthS b_law_right 0)) 5)) e s) (natD t) [w0, w1, w2, w3, w4, some (.val W), some (.val (.lst (runD false st gs S))), some (.val (.lst ((List.range S).map fun i => sideD (gs i)))), w8, w9, w10, w11, w12] s =
      .nx [w0, w1, w2, w3, w4, some (.val W), some (.val (.lst (runD false st gs S))), some (.val (.lst ((List.range S).map fun i => sideD (gs i)))), w8, some (.val (natD t)), w10, w11, w12] s := by
  have s1 := G.s1
  have tb : t ≤ 10 ^ 30 := by omega
  have e1 := G.at_ t s tb
  have e2 := G.go t s tb
  have e3 := some_at (st := st) (gs := gs) (S := S) (t := t) (by omega)
  have e4 := side_at (gs := gs) ht
  have c1 : ∀ p, clsD s (prD p) = none := fun _ => rfl
  have c2 : ∀ l, clsD s (sideD l) = none := fun _ => rfl
  have v1 : ∀ ds r, idxV td.it cl (.lst ds) r s = RS.ofO (idxD td.it (.lst ds) r) s := fun _ _ => rfl
  simp [frStep, inB, nthS, b_law_right, setT, exB, exS, evX, evDs, evTs, neu, evW, asD, asB, slotB, slotD, frz, RS.ofO, RS.bind, RS.toO, O.seq, cmpV, cmpD, truthV, truthD, cD_bl, cD_int, cD_str, cD_lst, cD_nat, c1, c2, v1, G.m39, G.m38, e1, e2, e3, e4, eqD_pr, eqD_side]
theorem far_body {cl : CallT} {k : Nat} {W : D} {st : Int × Int} {gs : Nat → Nat} {S : Nat} {d : D} {w1 w2 w3 w4 w9 w10 w11 w12 : Option Sv} {s : Sto} (G : Good cl k W st gs S) (hc : Cup k s) : ∃ v9 v11 v12 s', Upd k s s' ∧
    frStep [10] false (fun e s => exB td.it cl (inB (nthS (inB (nthS b_law_right 0)) 6)) e s) d [some (.val (.ref k)), w1, w2, w3, w4, some (.val W), some (.val (.lst (runD false st gs S))), some (.val (.lst ((List.range S).map fun i => sideD (gs i)))), some (.val (natD S)), w9, w10, w11, w12] s =
      .nx [some (.val (.ref k)), w1, w2, w3, w4, some (.val W), some (.val (.lst (runD false st gs S))), some (.val (.lst ((List.range S).map fun i => sideD (gs i)))), some (.val (natD S)), v9, some (.val d), v11, v12] s' := by
  have S0 := G.s0
  have S1 := G.s1
  obtain ⟨d1, s1, hd, u1, e1⟩ := G.pick [.int (S : Int), .int 1000000, .int 1000000000000000000, .int (1000000000000000000000000000000 - 2 * (S : Int))] s hc (by simp) (by simp)
  obtain ⟨t0, rfl, ht0⟩ : ∃ t0 : Nat, d1 = .int (t0 : Int) ∧ t0 + 2 * S ≤ 10 ^ 30 := by
    simp only [List.mem_cons, List.not_mem_nil, or_false] at hd
    rcases hd with rfl | rfl | rfl | rfl
    · exact ⟨S, rfl, by omega⟩
    · exact ⟨1000000, rfl, by omega⟩
    · exact ⟨1000000000000000000, rfl, by omega⟩
    · exact ⟨1000000000000000000000000000000 - 2 * S, by congr 1; omega, by omega⟩
  have c1 := u1.cup hc
  obtain ⟨r, s2, r0, r1, u2, e2⟩ := G.sip (2 * (S : Int)) s1 c1 (by omega) (by omega)
  obtain ⟨q, rfl⟩ : ∃ q : Nat, r = (q : Int) := ⟨r.toNat, by omega⟩
  generalize ht : t0 + q = t
  have tb : t ≤ 10 ^ 30 := by omega
  have tb' : t + 1 ≤ 10 ^ 30 := by omega
  have cast : ((t0 : Int) + (q : Int)) = (t : Int) := by omega
  have f1 := G.atk t s2 tb
  have f2 := G.gok t s2 tb
  have f3 := G.far t s2 tb
  have f4 := G.at_ (t + 1) s2 tb'
  have f5 := G.on (MW.pos st gs t) (gs t) s2 (G.g4 t)
  have ps : prD ((MW.pos st gs t).1 + (MW.mv (gs t)).1, (MW.pos st gs t).2 + (MW.mv (gs t)).2) = prD (MW.pos st gs (t + 1)) := rfl
  rw [ps] at f5
  have fm : (t : Int).fmod (S : Int) = ((t % S : Nat) : Int) := by rw [Int.fmod_eq_emod_of_nonneg _ (by omega)]; simp
  have f6 := side_at (gs := gs) (Nat.mod_lt t S0)
  rw [G.per.mod] at f6
  have k1 : ∀ p, clsD s2 (prD p) = none := fun _ => rfl
  have k2 : ∀ l, clsD s2 (sideD l) = none := fun _ => rfl
  have v1 : ∀ ds r, idxV td.it cl (.lst ds) r s2 = RS.ofO (idxD td.it (.lst ds) r) s2 := fun _ _ => rfl
  have m1 : mulOk 2 (S : Int) = true := by unfold mulOk; simp
  have z4 : szOk 4 = true := by decide
  have S2 : S ≠ 0 := by omega
  have lt : t < 1000000000000000000000000000000 := by omega
  refine ⟨some (.val (natD t)), some (.val (prD (MW.pos st gs t))), some (.val (sideD (gs t))), s2, u1.trans u2, ?_⟩
  simp only [frStep, setT, List.set_cons_succ, List.set_cons_zero, natD] at *
  have a1 : exS td.it cl (nthS (inB (nthS (inB (nthS b_law_right 0)) 6)) 0) [some (.val (.ref k)), w1, w2, w3, w4, some (.val W), some (.val (.lst (runD false st gs S))), some (.val (.lst ((List.range S).map fun i => sideD (gs i)))), some (.val (.int (S : Int))), w9, some (.val d), w11, w12] s = .nx [some (.val (.ref k)), w1, w2, w3, w4, some (.val W), some (.val (.lst (runD false st gs S))), some (.val (.lst ((List.range S).map fun i => sideD (gs i)))), some (.val (.int (S : Int))), some (.val (.int (t : Int))), some (.val d), w11, w12] s2 := by
    simp [inB, nthS, b_law_right, exS, evX, evDs, evW, asD, asB, slotB, slotD, frz, treeO, lookO, RS.ofO, RS.bind, RS.toO, binV, cD_bl, cD_int, cD_str, cD_lst, cD_nat, binD, tgA, e1, e2, m1, z4, cast]
  have a2 : exS td.it cl (nthS (inB (nthS (inB (nthS b_law_right 0)) 6)) 1) [some (.val (.ref k)), w1, w2, w3, w4, some (.val W), some (.val (.lst (runD false st gs S))), some (.val (.lst ((List.range S).map fun i => sideD (gs i)))), some (.val (.int (S : Int))), some (.val (.int (t : Int))), some (.val d), w11, w12] s2 = .nx [some (.val (.ref k)), w1, w2, w3, w4, some (.val W), some (.val (.lst (runD false st gs S))), some (.val (.lst ((List.range S).map fun i => sideD (gs i)))), some (.val (.int (S : Int))), some (.val (.int (t : Int))), some (.val d), some (.val (prD (MW.pos st gs t))), some (.val (sideD (gs t)))] s2 := by
    simp [inB, nthS, b_law_right, exS, evX, evDs, evW, asD, asB, slotB, slotD, frz, RS.ofO, RS.bind, RS.toO, setL, G.m39, G.m38, f1, f2]
  have a3 : exS td.it cl (nthS (inB (nthS (inB (nthS b_law_right 0)) 6)) 2) [some (.val (.ref k)), w1, w2, w3, w4, some (.val W), some (.val (.lst (runD false st gs S))), some (.val (.lst ((List.range S).map fun i => sideD (gs i)))), some (.val (.int (S : Int))), some (.val (.int (t : Int))), some (.val d), some (.val (prD (MW.pos st gs t))), some (.val (sideD (gs t)))] s2 = .nx [some (.val (.ref k)), w1, w2, w3, w4, some (.val W), some (.val (.lst (runD false st gs S))), some (.val (.lst ((List.range S).map fun i => sideD (gs i)))), some (.val (.int (S : Int))), some (.val (.int (t : Int))), some (.val d), some (.val (prD (MW.pos st gs t))), some (.val (sideD (gs t)))] s2 := by
    simp [-Int.natCast_emod, inB, nthS, b_law_right, exB, exS, evX, evDs, evBs, evTs, neu, evW, asD, asB, slotB, slotD, frz, RS.ofO, RS.bind, RS.toO, plainBi, biD, binV, cD_bl, cD_int, cD_str, cD_lst, cD_nat, binD, cmpV, cmpD, truthV, truthD, k1, k2, v1, f3, fm, f6, S2, eqD_pr, eqD_side]
  have a4 : exS td.it cl (nthS (inB (nthS (inB (nthS b_law_right 0)) 6)) 3) [some (.val (.ref k)), w1, w2, w3, w4, some (.val W), some (.val (.lst (runD false st gs S))), some (.val (.lst ((List.range S).map fun i => sideD (gs i)))), some (.val (.int (S : Int))), some (.val (.int (t : Int))), some (.val d), some (.val (prD (MW.pos st gs t))), some (.val (sideD (gs t)))] s2 = .nx [some (.val (.ref k)), w1, w2, w3, w4, some (.val W), some (.val (.lst (runD false st gs S))), some (.val (.lst ((List.range S).map fun i => sideD (gs i)))), some (.val (.int (S : Int))), some (.val (.int (t : Int))), some (.val d), some (.val (prD (MW.pos st gs t))), some (.val (sideD (gs t)))] s2 := by
    have lt' : (t : Int) < 1000000000000000000000000000000 := by omega
    generalize ht1 : t + 1 = t1 at f4 f5
    have h1 : (t : Int) + 1 = (t1 : Int) := by omega
    have cl1 : cmpD td.it .Lt (.int (t : Int)) (.int 1000000000000000000000000000000) = some true := by simp only [cmpD, decide_eq_true lt']
    have cn : ∀ p, cmpD td.it .NotEq (prD p) (prD p) = some false := by intro p; simp [cmpD, eqD_pr]
    have ad : binD .Add (.int (t : Int)) (.int 1) = some (.val (.int (t1 : Int))) := by simp only [binD, h1]
    have pw : binD .Pow (.int 10) (.int 30) = some (.val (.int 1000000000000000000000000000000)) := by rfl
    simp [inB, nthS, b_law_right, exB, exS, evX, evDs, evBs, evTs, neu, evW, asD, asB, slotB, slotD, frz, plainBi, binV, cD_bl, cD_int, cD_str, cD_lst, cD_nat, cmpV, truthV, truthD, k1, k2, G.m39, cl1, cn, ad, pw, f4, f5]
  exact exB_nx a1 (exB_nx a2 (exB_nx a3 (exB_one a4)))
end K12

set_option Elab.async false
set_option linter.all false
set_option maxRecDepth 100000
set_option maxHeartbeats 410000
namespace K12
open PySem L2 Wk
/-- what a cup's walks lean on -/
structure Lw (cl : CallT) (k : Nat) : Prop where
  sip : Sips k cl
  pick : ∀ (ds : List D) (s : Sto), Cup k s → 0 < ds.length → ds.length < 100 → ∃ d s', d ∈ ds ∧ Upd k s s' ∧ cl 12 [.ref k, .lst ds] [] s = .ok d s'
  row : ∀ s, Cup k s → ∃ x ws s', Spl x ws ∧ Upd k s s' ∧ cl 10 [.ref k, .int 8, .int 9] [] s = .ok (.str x) s'
  start : ∀ s, Cup k s → ∃ (st : Int × Int) (s' : Sto), (-10 ^ 30 ≤ st.1 ∧ st.1 ≤ 10 ^ 30 ∧ -10 ^ 30 ≤ st.2 ∧ st.2 ≤ 10 ^ 30) ∧ Upd k s s' ∧ cl 11 [.ref k] [] s = .ok (prD st) s'
  new : ∀ x ws (st : Int × Int) l s, Spl x ws → l < 4 → (-10 ^ 30 ≤ st.1 ∧ st.1 ≤ 10 ^ 30 ∧ -10 ^ 30 ≤ st.2 ∧ st.2 ≤ 10 ^ 30) → ∃ p, Good cl k (wkD x false st l (MW.gl (ws.map odS) l) p) st (MW.gl (ws.map odS) l) (4 * MW.stps (ws.map odS)) ∧ cl 29 [.str x, prD st, sideD l] [] s = .ok (wkD x false st l (MW.gl (ws.map odS) l) p) s
  some : ∀ x ws st l s, Spl x ws → l < 4 → cl 13 [.str x, prD st, sideD l] [] s = .ok (.lst (runD false st (MW.gl (ws.map odS) l) (4 * MW.stps (ws.map odS)))) s
  steps : ∀ x ws l many s, Spl x ws → l < 4 → many ≤ 1000 → cl 14 [.str x, sideD l, natD many] [] s = .ok (.lst ((List.range many).map fun i => sideD (MW.gl (ws.map odS) l i))) s
theorem near_it {T : IT} {cl : CallT} {w0 w1 w2 w3 w4 w5 w6 w7 w9 w10 w11 w12 : Option Sv} {s : Sto} {S m : Int} {last : D} {ds : List D} (bm : biD .min [.int S, .int 40] = some (.val (.int m))) (b1 : (b62 m && szOk m.toNat) = true) (zz : szOk 1 = true) (hs : binD .Sub (.int S) (.int 1) = some (.val last)) (hb : binD .Add (.lst (rangeD 0 m.toNat)) (.lst [last]) = some (.fr (.lst ds))) : (evX T cl (.bin .Add (.lrg (.bi .min (.cons (.loc 8) (.cons (.cst (.int 40)) .nil)))) (.lst (.cons (.bin .Sub (.loc 8) (.cst (.int 1))) .nil))) [w0, w1, w2, w3, w4, w5, w6, w7, some (.val (.int S)), w9, w10, w11, w12] s).i = .ok ds s := by
  simp only [evX, evDs, evBs, evW, asD, asB, slotB, slotD, frz, treeO, lookO, plainBi, binV, cD_int, cD_lst, itemsD, List.getElem?_cons_succ, List.getElem?_cons_zero, RS.ofO_some, RS.bind_ok, if_true, bm, b1, hs, Option.map_some, List.length_cons, List.length_nil, Nat.zero_add, zz, hb]
theorem near_loop {cl : CallT} {k : Nat} {W : D} {st : Int × Int} {gs : Nat → Nat} {S : Nat} {w0 w1 w2 w3 w4 w8 w9 w10 w11 w12 : Option Sv} {s : Sto} (G : Good cl k W st gs S) : ∃ v9, exS td.it cl (nthS (inB (nthS b_law_right 0)) 5) [w0, w1, w2, w3, w4, some (.val W), some (.val (.lst (runD false st gs S))), some (.val (.lst ((List.range S).map fun i => sideD (gs i)))), some (.val (natD S)), w9, w10, w11, w12] s = .nx [w0, w1, w2, w3, w4, some (.val W), some (.val (.lst (runD false st gs S))), some (.val (.lst ((List.range S).map fun i => sideD (gs i)))), some (.val (natD S)), v9, w10, w11, w12] s := by
  have S0 := G.s0
  have S1 := G.s1
  obtain ⟨m, hm, bm⟩ : ∃ m : Nat, m ≤ S ∧ biD .min [.int (S : Int), .int 40] = some (.val (.int (m : Int))) := by
    by_cases q : 40 < S
    · refine ⟨40, by omega, ?_⟩
      have : (40 : Int) < (S : Int) := by omega
      simp [biD, this]
    · refine ⟨S, by omega, ?_⟩
      have : ¬ (40 : Int) < (S : Int) := by omega
      simp [biD, this]
  obtain ⟨e', s', q, rfl, ⟨v9, rfl⟩, _⟩ := frGo_nx (step := frStep [9] false fun e s => exB td.it cl (inB (nthS (inB (nthS b_law_right 0)) 5)) e s)
    (fun rem e s' => s' = s ∧ (∃ v9, e = [w0, w1, w2, w3, w4, some (.val W), some (.val (.lst (runD false st gs S))), some (.val (.lst ((List.range S).map fun i => sideD (gs i)))), some (.val (natD S)), v9, w10, w11, w12]) ∧ ∀ d ∈ rem, ∃ t, t < S ∧ d = natD t)
    (by
      rintro d ds e s' ⟨rfl, ⟨v9, rfl⟩, hd⟩
      obtain ⟨t, ht, rfl⟩ := hd d List.mem_cons_self
      exact ⟨_, _, near_body G ht, rfl, ⟨_, rfl⟩, fun d h => hd d (List.mem_cons_of_mem _ h)⟩)
    (rangeD 0 m ++ [natD (S - 1)]) [w0, w1, w2, w3, w4, some (.val W), some (.val (.lst (runD false st gs S))), some (.val (.lst ((List.range S).map fun i => sideD (gs i)))), some (.val (natD S)), w9, w10, w11, w12] s
    ⟨rfl, ⟨_, rfl⟩, by
      intro d hd
      rcases List.mem_append.mp hd with hd | hd
      · simp only [rangeD, List.mem_map, List.mem_range] at hd
        obtain ⟨i, hi, rfl⟩ := hd
        exact ⟨i, by omega, by simp only [natD]; congr 1; omega⟩
      · exact ⟨S - 1, by omega, List.mem_singleton.mp hd⟩⟩
  refine ⟨v9, exS_fr (ds := rangeD 0 m ++ [natD (S - 1)]) (s0 := s') ?_ q⟩
  have e1 : (S : Int) - 1 = ((S - 1 : Nat) : Int) := by omega
  have z1 : szOk m = true := by unfold szOk; simp; omega
  have lr : (rangeD 0 m).length = m := by simp [rangeD]
  have z2 : szOk (m + 1) = true := by unfold szOk; simp; omega
  refine near_it bm (by rw [b62_small (by omega) (by omega), Int.toNat_natCast, z1]; rfl) (by decide) (by simp only [binD, e1]; rfl) ?_
  rw [Int.toNat_natCast]
  simp only [binD, List.length_cons, List.length_nil, lr, Nat.zero_add, z2, if_true]
  rfl
theorem far_loop {cl : CallT} {k : Nat} {W : D} {st : Int × Int} {gs : Nat → Nat} {S : Nat} {w1 w2 w3 w4 w9 w10 w11 w12 : Option Sv} {s : Sto} (G : Good cl k W st gs S) (hc : Cup k s) : ∃ v9 v10 v11 v12 s', Upd k s s' ∧ exS td.it cl (nthS (inB (nthS b_law_right 0)) 6) [some (.val (.ref k)), w1, w2, w3, w4, some (.val W), some (.val (.lst (runD false st gs S))), some (.val (.lst ((List.range S).map fun i => sideD (gs i)))), some (.val (natD S)), w9, w10, w11, w12] s = .nx [some (.val (.ref k)), w1, w2, w3, w4, some (.val W), some (.val (.lst (runD false st gs S))), some (.val (.lst ((List.range S).map fun i => sideD (gs i)))), some (.val (natD S)), v9, v10, v11, v12] s' := by
  obtain ⟨e', s', q, u, c, v9, v10, v11, v12, rfl⟩ := frGo_nx (step := frStep [10] false fun e s => exB td.it cl (inB (nthS (inB (nthS b_law_right 0)) 6)) e s)
    (fun rem e s' => Upd k s s' ∧ Cup k s' ∧ ∃ v9 v10 v11 v12, e = [some (.val (.ref k)), w1, w2, w3, w4, some (.val W), some (.val (.lst (runD false st gs S))), some (.val (.lst ((List.range S).map fun i => sideD (gs i)))), some (.val (natD S)), v9, v10, v11, v12])
    (by
      rintro d ds e s' ⟨u, c, v9, v10, v11, v12, rfl⟩
      obtain ⟨a, b, c', s2, u2, e⟩ := far_body (d := d) (w1 := w1) (w2 := w2) (w3 := w3) (w4 := w4) (w9 := v9) (w10 := v10) (w11 := v11) (w12 := v12) G c
      exact ⟨_, s2, e, u.trans u2, u2.cup c, _, _, _, _, rfl⟩)
    (rangeD 0 6) [some (.val (.ref k)), w1, w2, w3, w4, some (.val W), some (.val (.lst (runD false st gs S))), some (.val (.lst ((List.range S).map fun i => sideD (gs i)))), some (.val (natD S)), w9, w10, w11, w12] s
    ⟨Upd.refl hc, hc, _, _, _, _, rfl⟩
  refine ⟨v9, v10, v11, v12, s', u, exS_fr (ds := rangeD 0 6) (s0 := s) (range_i (xs := [.int 6]) ?_ ?_) q⟩
  · simp [evBs, evX, evW, asB, frz]
  · simp [rangeOf, b62_small (i := 6) (by omega) (by omega)]
theorem ends_ok {cl : CallT} {k : Nat} {W : D} {st : Int × Int} {gs : Nat → Nat} {S : Nat} {w0 w1 w2 w4 w7 w8 w9 w10 w11 w12 : Option Sv} {s : Sto} (G : Good cl k W st gs S) : exS td.it cl (nthS (inB (nthS b_law_right 0)) 7) [w0, w1, w2, some (.val (prD st)), w4, some (.val W), some (.val (.lst (runD false st gs S))), w7, w8, w9, w10, w11, w12] s = .nx [w0, w1, w2, some (.val (prD st)), w4, some (.val W), some (.val (.lst (runD false st gs S))), w7, w8, w9, w10, w11, w12] s := by
  obtain ⟨t, ht⟩ : ∃ t : Nat, t = 10 ^ 30 := ⟨_, rfl⟩
  have ti : (t : Int) = 1000000000000000000000000000000 := by rw [ht]; rfl
  have f0 : cl 1001 [W, .int 0] [] s = .ok (prD st) s := G.at_ 0 s (by omega)
  have f1 := G.at_ t s (by omega)
  have f2 := G.far t s (by omega)
  simp only [natD, ti] at f1 f2
  have cn : ∀ p, cmpD td.it .NotEq (prD p) (prD p) = some false := by intro p; simp [cmpD, eqD_pr]
  have pw : binD .Pow (.int 10) (.int 30) = some (.val (.int 1000000000000000000000000000000)) := by rfl
  have c1 : ∀ p, clsD s (prD p) = none := fun _ => rfl
  clear ht
  simp [inB, nthS, b_law_right, exB, exS, evX, evDs, evBs, evTs, neu, evW, asD, asB, slotB, slotD, frz, plainBi, binV, cD_bl, cD_int, cD_str, cD_lst, cmpV, truthV, truthD, c1, G.m39, cn, pw, f0, f1, f2]
theorem turn_ok {cl : CallT} {k : Nat} {d : D} {w1 w2 w3 w4 w5 w6 w7 w8 w9 w10 w11 w12 : Option Sv} {s : Sto} (L : Lw cl k) (hc : Cup k s) : ∃ v1 v2 v3 v4 v5 v6 v7 v8 v9 v10 v11 v12 s', Upd k s s' ∧
    frStep [1] false (fun e s => exB td.it cl (inB (nthS b_law_right 0)) e s) d [some (.val (.ref k)), w1, w2, w3, w4, w5, w6, w7, w8, w9, w10, w11, w12] s = .nx [some (.val (.ref k)), v1, v2, v3, v4, v5, v6, v7, v8, v9, v10, v11, v12] s' := by
  obtain ⟨x, ws, s1, hx, u1, e1⟩ := L.row s hc
  have c1 := u1.cup hc
  obtain ⟨st, s2, hst, u2, e2⟩ := L.start s1 c1
  have c2 := u2.cup c1
  obtain ⟨sd, s3, hsd, u3, e3⟩ := L.pick [.str "N", .str "E", .str "S", .str "W"] s2 c2 (by simp) (by simp)
  have c3 := u3.cup c2
  obtain ⟨l, hl, rfl⟩ : ∃ l, l < 4 ∧ sd = sideD l := by
    simp only [List.mem_cons, List.not_mem_nil, or_false] at hsd
    rcases hsd with rfl | rfl | rfl | rfl
    · exact ⟨0, by omega, rfl⟩
    · exact ⟨1, by omega, rfl⟩
    · exact ⟨2, by omega, rfl⟩
    · exact ⟨3, by omega, rfl⟩
  obtain ⟨p, G, e4⟩ := L.new x ws st l s3 hx hl hst
  have e5 := L.some x ws st l s3 hx hl
  have hS := G.s1
  have e6 := L.steps x ws l (4 * MW.stps (ws.map odS)) s3 hx hl (by omega)
  generalize hgs : MW.gl (ws.map odS) l = gs at *
  generalize hSS : 4 * MW.stps (ws.map odS) = S at *
  generalize hW : wkD x false st l gs p = W at *
  obtain ⟨v9, q5⟩ := near_loop (w0 := some (.val (.ref k))) (w1 := some (.val d)) (w2 := some (.val (.str x))) (w3 := some (.val (prD st))) (w4 := some (.val (sideD l))) (w8 := none) (w9 := w9) (w10 := w10) (w11 := w11) (w12 := w12) (s := s3) G
  obtain ⟨a9, a10, a11, a12, s4, u4, q6⟩ := far_loop (w1 := some (.val d)) (w2 := some (.val (.str x))) (w3 := some (.val (prD st))) (w4 := some (.val (sideD l))) (w9 := v9) (w10 := w10) (w11 := w11) (w12 := w12) (s := s3) G c3
  have q7 := ends_ok (w0 := some (.val (.ref k))) (w1 := some (.val d)) (w2 := some (.val (.str x))) (w4 := some (.val (sideD l))) (w7 := some (.val (.lst ((List.range S).map fun i => sideD (gs i))))) (w8 := some (.val (natD S))) (w9 := a9) (w10 := a10) (w11 := a11) (w12 := a12) (s := s4) G
  refine ⟨some (.val d), some (.val (.str x)), some (.val (prD st)), some (.val (sideD l)), some (.val W), some (.val (.lst (runD false st gs S))), some (.val (.lst ((List.range S).map fun i => sideD (gs i)))), some (.val (natD S)), a9, a10, a11, a12, s4, ((u1.trans u2).trans u3).trans u4, ?_⟩
  simp only [frStep, setT, List.set_cons_succ, List.set_cons_zero]
  have z4 : szOk 4 = true := by decide
  have ln1 : lenD (.lst (runD false st gs S)) = some (S + 1) := by simp [lenD, runD]
  have ln2 : lenD (.lst ((List.range S).map fun i => sideD (gs i))) = some S := by simp [lenD]
  have b1 : biD .len [.lst (runD false st gs S)] = some (.val (.int ((S : Int) + 1))) := by simp [biD, ln1]
  have b2 : biD .len [.lst ((List.range S).map fun i => sideD (gs i))] = some (.val (natD S)) := by simp [biD, ln2, natD]
  have b3 : binD .Sub (.int ((S : Int) + 1)) (.int 1) = some (.val (natD S)) := by simp only [binD, natD]; congr 3; omega
  refine exB_nx (e1 := [some (.val (.ref k)), some (.val d), some (.val (.str x)), some (.val (prD st)), some (.val (sideD l)), w5, w6, w7, w8, w9, w10, w11, w12]) (s1 := s3) ?_ ?_
  · simp [exS, evX, evDs, evW, asD, asB, slotB, slotD, frz, treeO, lookO, setL, e1, e2, e3, z4]
  refine exB_nx (e1 := [some (.val (.ref k)), some (.val d), some (.val (.str x)), some (.val (prD st)), some (.val (sideD l)), some (.val W), w6, w7, w8, w9, w10, w11, w12]) (s1 := s3) ?_ ?_
  · simp [exS, evX, evDs, evW, asD, asB, slotB, slotD, frz, treeO, lookO, tgA, e4]
  refine exB_nx (e1 := [some (.val (.ref k)), some (.val d), some (.val (.str x)), some (.val (prD st)), some (.val (sideD l)), some (.val W), some (.val (.lst (runD false st gs S))), w7, w8, w9, w10, w11, w12]) (s1 := s3) ?_ ?_
  · simp [exS, evX, evDs, evW, asD, asB, slotB, slotD, frz, treeO, lookO, tgA, e5]
  refine exB_nx (e1 := [some (.val (.ref k)), some (.val d), some (.val (.str x)), some (.val (prD st)), some (.val (sideD l)), some (.val W), some (.val (.lst (runD false st gs S))), some (.val (.lst ((List.range S).map fun i => sideD (gs i)))), w8, w9, w10, w11, w12]) (s1 := s3) ?_ ?_
  · simp [exS, evX, evDs, evBs, evW, asD, asB, slotB, slotD, frz, treeO, lookO, tgA, plainBi, binV, cD_int, b1, b3, e6]
  refine exB_nx (e1 := [some (.val (.ref k)), some (.val d), some (.val (.str x)), some (.val (prD st)), some (.val (sideD l)), some (.val W), some (.val (.lst (runD false st gs S))), some (.val (.lst ((List.range S).map fun i => sideD (gs i)))), some (.val (natD S)), w9, w10, w11, w12]) (s1 := s3) ?_ ?_
  · simp [exS, evX, evDs, evBs, evW, asD, asB, slotB, slotD, frz, treeO, lookO, tgA, plainBi, b2]
  exact exB_nx q5 (exB_nx q6 (exB_one q7))
theorem right_core {cl : CallT} {k : Nat} {s : Sto} (L : Lw cl k) (hc : Cup k s) : ∃ s', Upd k s s' ∧ retO td.it i_law_right (exB td.it cl b_law_right [some (.val (.ref k)), none, none, none, none, none, none, none, none, none, none, none, none] s) = .ok (.bl true) s' := by
  obtain ⟨e', s', q, u, c, v1, v2, v3, v4, v5, v6, v7, v8, v9, v10, v11, v12, rfl⟩ := frGo_nx (step := frStep [1] false fun e s => exB td.it cl (inB (nthS b_law_right 0)) e s)
    (fun rem e s' => Upd k s s' ∧ Cup k s' ∧ ∃ v1 v2 v3 v4 v5 v6 v7 v8 v9 v10 v11 v12, e = [some (.val (.ref k)), v1, v2, v3, v4, v5, v6, v7, v8, v9, v10, v11, v12])
    (by
      rintro d ds e s' ⟨u, c, v1, v2, v3, v4, v5, v6, v7, v8, v9, v10, v11, v12, rfl⟩
      obtain ⟨a1, a2, a3, a4, a5, a6, a7, a8, a9, a10, a11, a12, s2, u2, e⟩ := turn_ok (d := d) (w1 := v1) (w2 := v2) (w3 := v3) (w4 := v4) (w5 := v5) (w6 := v6) (w7 := v7) (w8 := v8) (w9 := v9) (w10 := v10) (w11 := v11) (w12 := v12) L c
      exact ⟨_, s2, e, u.trans u2, u2.cup c, _, _, _, _, _, _, _, _, _, _, _, _, rfl⟩)
    (rangeD 0 4) [some (.val (.ref k)), none, none, none, none, none, none, none, none, none, none, none, none] s
    ⟨Upd.refl hc, hc, _, _, _, _, _, _, _, _, _, _, _, _, rfl⟩
  refine ⟨s', u, ret_nx (exS_fr (ds := rangeD 0 4) (s0 := s) (range_i (xs := [.int 4]) ?_ ?_) q) ?_⟩
  · simp [evBs, evX, evW, asB, frz]
  · simp [rangeOf, b62_small (i := 4) (by omega) (by omega)]
  · simp [exB, exS, evX, evW, retO, i_law_right, frz]
end K12

set_option Elab.async false
set_option linter.all false
set_option maxRecDepth 100000
set_option maxHeartbeats 410000
namespace K12
open PySem L2 Wk
theorem at_kw {n : Nat} {W v : D} {s : Sto} : callI td.it (n + 1) 1001 [W] [(51, v)] s = callI td.it (n + 1) 1001 [W, v] [] s := by
  rw [call_fn (fi := i_Walker_at) rfl rfl, call_fn (fi := i_Walker_at) rfl rfl]
  rfl
theorem goes_kw {n : Nat} {W v : D} {s : Sto} : callI td.it (n + 1) 1002 [W] [(51, v)] s = callI td.it (n + 1) 1002 [W, v] [] s := by
  rw [call_fn (fi := i_Walker_goes) rfl rfl, call_fn (fi := i_Walker_goes) rfl rfl]
  rfl
theorem far_k {n : Nat} {st : Int × Int} {gs : Nat → Nat} {S t : Nat} {s : Sto} (S0 : 0 < S) (S1 : S ≤ 300) (hp : MW.Per gs S) : callI td.it (n + 1) 16 [.lst (runD false st gs S), natD t] [] s = .ok (prD (MW.pos st gs t)) s := by
  have nr := MW.pos_near (st := st) (g := gs) S
  have e1 : (t : Int) % (S : Int) = ((t % S : Nat) : Int) := by simp
  have e2 : (t : Int) / (S : Int) = ((t / S : Nat) : Int) := by simp
  have h := far_ok (n := n) (L := S) (ds := runD false st gs S) (a := (t : Int)) (s := s) (q0 := (MW.pos st gs (t % S)).1) (q1 := (MW.pos st gs (t % S)).2) (p0 := st.1) (p1 := st.2) (l0 := (MW.pos st gs S).1) (l1 := (MW.pos st gs S).2) (by simp [runD]) S0 (by omega)
    (by rw [e1, run_at (Nat.le_of_lt (Nat.mod_lt _ S0))]; simp [prK, prD]) (by exact run_at (i := 0) (Nat.zero_le _)) (by rw [runD_last, if_neg (by omega)]; rfl)
    (by rw [e2]; exact mul_big (by omega) (by omega)) (by rw [e2]; exact mul_big (by omega) (by omega))
  rw [e2] at h
  have pm := MW.pos_mod (st := st) hp t
  rw [show natD t = .int (t : Int) from rfl, h]
  generalize MW.pos st gs t = P at pm ⊢
  subst pm
  rfl
theorem good_ok {n k : Nat} {x : Str} {st : Int × Int} {l : Nat} {gs : Nat → Nat} {p S : Nat} (p0 : 0 < p) (p1 : p ≤ 300) (hp : MW.Per gs p) (S0 : 0 < S) (S1 : S ≤ 300) (hS : MW.Per gs S) (hg : ∀ i, gs i < 4) : Good (callI td.it (n + 8)) k (wkD x false st l gs p) st gs S where
  sip := fun m s h h0 h1 => sip (n := n + 7) h h0 h1
  pick := fun ds s h h0 h1 => pick_ok (n := n + 6) h h0 (by omega)
  at_ := fun t s ht => at_k (n := n + 3) p0 p1 hp ht
  atk := fun t s ht => (at_kw (n := n + 7)).trans (at_k (n := n + 3) p0 p1 hp ht)
  go := fun t s ht => goes_k (n := n + 3) p0 p1 hp hg ht
  gok := fun t s ht => (goes_kw (n := n + 7)).trans (goes_k (n := n + 3) p0 p1 hp hg ht)
  far := fun t s ht => far_k (n := n + 7) S0 S1 hS
  on := fun p l s h => on_k (n := n + 7) h
  m39 := fun s => rfl
  m38 := fun s => rfl
  s0 := S0
  s1 := S1
  g4 := hg
  per := hS
theorem lw_ok {n k : Nat} : Lw (callI td.it (n + 8)) k where
  sip := fun m s h h0 h1 => sip (n := n + 7) h h0 h1
  pick := fun ds s h h0 h1 => pick_ok (n := n + 6) h h0 (by omega)
  row := fun s h => row_ok (n := n + 6) h
  start := fun s h => by
    obtain ⟨a, b, s', h1, h2, h3, h4, u, e⟩ := start_ok (n := n + 5) h
    exact ⟨(a, b), s', ⟨by simp only; omega, by simp only; omega, by simp only; omega, by simp only; omega⟩, u, e⟩
  new := fun x ws st l s hx hl hst => by
    have s1 := stps_le hx.2.1
    have s2 := stps_pos hx.2.2.2
    have s3 := hx.2.2.1
    obtain ⟨p, p0, p1, hp, e⟩ := walker_ok (n := n + 1) (x := x) (sd := prD st) (k := false) (st := st) (l := l) (s := s) (ds := [.str x, prD st, sideD l]) (kws := []) rfl hx hl (.inl ⟨rfl, hst.1, hst.2.1, hst.2.2.1, hst.2.2.2⟩)
    have pS : MW.Per (MW.gl (ws.map odS) l) (4 * MW.stps (ws.map odS)) := by
      rw [← MW.walk_len _ l]
      exact MW.per _ _ _ s2 (MW.walk4 _ _ hl)
    exact ⟨p, good_ok p0 p1 hp (by omega) (by omega) pS (MW.gl_lt _ _), e⟩
  some := fun x ws st l s hx hl => some_ok (n := n + 5) hx hl
  steps := fun x ws l many s hx hl hm => steps_ok (n := n + 7) hx hl hm
theorem right_ok {n k : Nat} {s : Sto} (hc : Cup k s) : ∃ s', Upd k s s' ∧ callI td.it (n + 9) 1 [.ref k] [] s = .ok (.bl true) s' := by
  obtain ⟨s', u, e⟩ := right_core (lw_ok (n := n) (k := k)) hc
  refine ⟨s', u, ?_⟩
  rw [call_fn (fi := i_law_right) rfl rfl, callF_all rfl]
  exact e
/-! ### the law -/
theorem all_loop {cl : CallT} {sc : D} {a1 a2 a3 : Option Sv} (hcup : ∀ (j : Nat) s, j ≤ 63 → ∃ a b : Int, cl 2 [sc, natD j] [] s = .ok (.ref s.length) (s ++ [.lst [.int a, .int b]])) (hr : ∀ k s, Cup k s → ∃ s', Upd k s s' ∧ cl 1 [.ref k] [] s = .ok (.bl true) s') : ∀ (js : List Nat) (acc : List D) (s : Sto), (∀ j ∈ js, j ≤ 63) →
    ∃ s', lcGo (lcStep (fun e s => evTs td.it cl .And .nil e s) (fun e s => asD td.it (evX td.it cl (.call 1 (.cons (.call 2 (.cons (.loc 0) (.cons (.loc 4) .nil)) [] .nil) .nil) [] .nil) e s).v) [4] false (wipeE [some (.val sc), a1, a2, a3, none] [4])) (js.map natD) s acc = .ok (acc ++ List.replicate js.length (.bl true)) s'
  | [], acc, s, _ => ⟨s, by simp [lcGo]⟩
  | j :: js, acc, s, h => by
    obtain ⟨a, b, e1⟩ := hcup j s (h j List.mem_cons_self)
    have hc : Cup s.length (s ++ [.lst [.int a, .int b]]) := ⟨a, b, by simp⟩
    obtain ⟨s2, _, e2⟩ := hr _ _ hc
    obtain ⟨s', ih⟩ := all_loop hcup hr (a1 := a1) (a2 := a2) (a3 := a3) js (acc ++ [.bl true]) s2 fun i hi => h i (List.mem_cons_of_mem _ hi)
    refine ⟨s', ?_⟩
    rw [List.map_cons]
    unfold lcGo
    have st : lcStep (fun e s => evTs td.it cl .And .nil e s) (fun e s => asD td.it (evX td.it cl (.call 1 (.cons (.call 2 (.cons (.loc 0) (.cons (.loc 4) .nil)) [] .nil) .nil) [] .nil) e s).v) [4] false (wipeE [some (.val sc), a1, a2, a3, none] [4]) (natD j) s = .ok (some (.bl true)) s2 := by
      simp [lcStep, setT, wipeE, evTs, evX, evW, evDs, asD, slotD, frz, neu, e1, e2]
    rw [st]
    dsimp only
    rw [ih]
    simp [List.replicate_succ]
/-- the walkers of the law's own check -/
theorem split_lit {x : Str} {ws : List Str} (h : szOk x.length = true ∧ Txt.split x (Str.ofString " ") = ws) : smD .split x (.str " ") = some (.fr (.lst (ws.map .str))) := by
  have l1 : (Str.ofString " ").length ≠ 0 := by decide +kernel
  simp [smD, h.1, h.2, l1]
theorem spl1 : Spl "2 R" ["2", "R"] := ⟨split_lit (by decide +kernel), by decide +kernel, by decide, by decide +kernel⟩
theorem spl2 : Spl "4 L 2 L 2 L 2 L" ["4", "L", "2", "L", "2", "L", "2", "L"] := ⟨split_lit (by decide +kernel), by decide +kernel, by decide, by decide +kernel⟩
theorem spl3 : Spl "1 R 1 L" ["1", "R", "1", "L"] := ⟨split_lit (by decide +kernel), by decide +kernel, by decide, by decide +kernel⟩
theorem spl4 : Spl "B 1 L 9" ["B", "1", "L", "9"] := ⟨split_lit (by decide +kernel), by decide +kernel, by decide, by decide +kernel⟩
end K12

set_option Elab.async false
set_option linter.all false
set_option maxRecDepth 100000
set_option maxHeartbeats 410000
namespace K12
open PySem L2 Wk
theorem lc_st {T : IT} {cl : CallT} {el it : Ex} {ifs : Exs} {t vs : List Nat} {tp : Bool} {e : Wk.Env} {s s' : Sto} {ds acc : List D} (h1 : (evX T cl it e s).j = .ok ds s) (h2 : szOk ds.length = true) (h3 : noOwn e vs = true) (h4 : lcGo (lcStep (fun e s => evTs T cl .And ifs e s) (fun e s => asD T (evX T cl el e s).v) t tp (wipeE e vs)) ds s [] = .ok acc s') : (evX T cl (.lc el t tp it ifs vs) e s).v = .ok (.fr (.lst acc)) s' := by
  simp only [evX, evW, h1, RS.bind_ok, h2, h3, Bool.and_self, if_true, h4]
theorem range_nat (n : Nat) : rangeD 0 n = (List.range n).map natD := by
  unfold rangeD
  apply List.map_congr_left
  intro i _
  simp [natD]
theorem all_true : ∀ n : Nat, biD .all [.lst (List.replicate n (.bl true))] = some (.val (.bl true)) := by
  intro n
  have : blsD (List.replicate n (.bl true)) = some (List.replicate n true) := by
    induction n with
    | zero => rfl
    | succ n ih => rw [List.replicate_succ, blsD, ih]; rfl
  simp [biD, this]
theorem seen_eq : eqD (.lst [.tup [.int 0, .int 0], .str "E", .tup [.int 8, .int 1], .tup [.int 500000000000000000000000000000, .int 500000000000000000000000000000], .str "S"]) (.lst [.tup [.int 0, .int 0], .str "E", .tup [.int 8, .int 1], .tup [.int 500000000000000000000000000000, .int 500000000000000000000000000000], .str "S"]) = some true := by decide +kernel
theorem law_core {cl : CallT} {sc W1 W2 W3 W4 : D} {ns : List Int} (hsc : ScD sc ns)
    (h1 : cl 29 [.str "2 R"] [] [] = .ok W1 []) (h2 : cl 29 [.str "4 L 2 L 2 L 2 L"] [(40, .str "E")] [] = .ok W2 []) (h3 : cl 29 [.str "1 R 1 L"] [] [] = .ok W3 []) (h4 : cl 29 [.str "B 1 L 9"] [] [] = .ok W4 [])
    (m1 : methD td.it [] W1 39 = some 1001) (m2 : methD td.it [] W1 38 = some 1002) (m3 : methD td.it [] W2 39 = some 1001) (m4 : methD td.it [] W3 39 = some 1001) (m5 : methD td.it [] W4 38 = some 1002)
    (r1 : cl 1001 [W1, .int 1000000000000000000000000000000] [] [] = .ok (.tup [.int 0, .int 0]) []) (r2 : cl 1002 [W1, .int 3] [] [] = .ok (.str "E") []) (r3 : cl 1001 [W2, .int 25] [] [] = .ok (.tup [.int 8, .int 1]) [])
    (r4 : cl 1001 [W3, .int 1000000000000000000000000000000] [] [] = .ok (.tup [.int 500000000000000000000000000000, .int 500000000000000000000000000000]) []) (r5 : cl 1002 [W4, .int 0] [] [] = .ok (.str "S") [])
    (hcup : ∀ (j : Nat) s, j ≤ 63 → ∃ a b : Int, cl 2 [sc, natD j] [] s = .ok (.ref s.length) (s ++ [.lst [.int a, .int b]])) (hr : ∀ k s, Cup k s → ∃ s', Upd k s s' ∧ cl 1 [.ref k] [] s = .ok (.bl true) s') :
    ∃ s', retO td.it i_law (exB td.it cl b_law [some (.val sc), none, none, none, none] []) = .ok (.bl true) s' := by
  have ln : lenD sc = some ns.length := by rcases hsc with rfl | rfl <;> simp [lenD]
  obtain ⟨c, hc, bc⟩ : ∃ c : Nat, c ≤ 6 ∧ ∃ m : Int, biD .min [.int (ns.length : Int), .int 6] = some (.val (.int m)) ∧ biD .max [.int 2, .int m] = some (.val (.int (c : Int))) := by
    by_cases q : 6 < ns.length
    · have q1 : (6 : Int) < (ns.length : Int) := by omega
      exact ⟨6, by omega, 6, by simp [biD, q1], by simp [biD]⟩
    · have q1 : ¬ (6 : Int) < (ns.length : Int) := by omega
      by_cases q2 : 2 < ns.length
      · have q3 : (2 : Int) < (ns.length : Int) := by omega
        exact ⟨ns.length, by omega, ns.length, by simp [biD, q1], by simp [biD, q3]⟩
      · have q3 : ¬ (2 : Int) < (ns.length : Int) := by omega
        exact ⟨2, by omega, ns.length, by simp [biD, q1], by simp [biD, q3]⟩
  obtain ⟨m, bm, bx⟩ := bc
  have z5 : szOk 5 = true := by decide
  have z2 : szOk 2 = true := by decide
  have pw : binD .Pow (.int 10) (.int 30) = some (.val (.int 1000000000000000000000000000000)) := by rfl
  have pw2 : binD .Pow (.int 10) (.int 29) = some (.val (.int 100000000000000000000000000000)) := by rfl
  have ml : binD .Mult (.int 5) (.int 100000000000000000000000000000) = some (.val (.int 500000000000000000000000000000)) := by rfl
  let L : D := .lst [.tup [.int 0, .int 0], .str "E", .tup [.int 8, .int 1], .tup [.int 500000000000000000000000000000, .int 500000000000000000000000000000], .str "S"]
  have hL : L = .lst [.tup [.int 0, .int 0], .str "E", .tup [.int 8, .int 1], .tup [.int 500000000000000000000000000000, .int 500000000000000000000000000000], .str "S"] := rfl
  have a0 : exS td.it cl (nthS b_law 0) [some (.val sc), none, none, none, none] [] = .nx [some (.val sc), some (.val W1), some (.val W2), none, none] [] := by
    simp [nthS, b_law, exS, evX, evDs, evW, asD, frz, setL, h1, h2]
  have a1 : exS td.it cl (nthS b_law 1) [some (.val sc), some (.val W1), some (.val W2), none, none] [] = .nx [some (.val sc), some (.val W1), some (.val W2), some (.val L), none] [] := by
    rw [hL]
    simp [nthS, b_law, exS, evX, evDs, evW, asD, asB, slotD, slotB, frz, treeO, lookO, tgA, binV, cD_int, h3, h4, m1, m2, m3, m4, m5, r1, r2, r3, r4, r5, pw, z5]
  have a2 : exS td.it cl (nthS b_law 2) [some (.val sc), some (.val W1), some (.val W2), some (.val L), none] [] = .nx [some (.val sc), some (.val W1), some (.val W2), some (.val L), none] [] := by
    have cn : cmpD td.it .NotEq L L = some false := by rw [hL]; simp only [cmpD, seen_eq, Option.map_some, Bool.not_true]
    have lit : (evX td.it cl (.lst (.cons (.tup (.cons (.cst (.int 0)) (.cons (.cst (.int 0)) .nil))) (.cons (.cst (.str "E")) (.cons (.tup (.cons (.cst (.int 8)) (.cons (.cst (.int 1)) .nil))) (.cons (.tup (.cons (.bin .Mult (.cst (.int 5)) (.bin .Pow (.cst (.int 10)) (.cst (.int 29)))) (.cons (.bin .Mult (.cst (.int 5)) (.bin .Pow (.cst (.int 10)) (.cst (.int 29)))) .nil))) (.cons (.cst (.str "S")) .nil)))))) [some (.val sc), some (.val W1), some (.val W2), some (.val L), none] []).v = .ok (.fr (.lst [.tup [.int 0, .int 0], .str "E", .tup [.int 8, .int 1], .tup [.int 500000000000000000000000000000, .int 500000000000000000000000000000], .str "S"])) [] := by
      simp [evX, evDs, evW, asD, asB, frz, binV, cD_int, pw2, ml, z2, z5]
    have cL : clsD [] L = none := rfl
    have bt : ∀ s, truthV td.it cl (.bl false) s = .ok false s := fun _ => rfl
    have ev : (evX td.it cl (.cmp .NotEq (.loc 3) (.lst (.cons (.tup (.cons (.cst (.int 0)) (.cons (.cst (.int 0)) .nil))) (.cons (.cst (.str "E")) (.cons (.tup (.cons (.cst (.int 8)) (.cons (.cst (.int 1)) .nil))) (.cons (.tup (.cons (.bin .Mult (.cst (.int 5)) (.bin .Pow (.cst (.int 10)) (.cst (.int 29)))) (.cons (.bin .Mult (.cst (.int 5)) (.bin .Pow (.cst (.int 10)) (.cst (.int 29)))) .nil))) (.cons (.cst (.str "S")) .nil))))))) [some (.val sc), some (.val W1), some (.val W2), some (.val L), none] []).t = .ok false [] := by
      rw [evX]
      simp only [evW, asB, slotB, lit, RS.bind_ok, frz, treeO, lookO, RS.ofO_some, List.getElem?_cons_succ, List.getElem?_cons_zero]
      rw [← hL]
      simp only [cmpV, cL, cn, Option.map_some, RS.ofO_some, RS.bind_ok, bt]
    show exS td.it cl (.ife _ _ _) _ _ = _
    simp only [exS]
    erw [ev]
    simp [exB]
  have jl := all_loop hcup hr (a1 := some (.val W1)) (a2 := some (.val W2)) (a3 := some (.val L)) (List.range c) [] [] (by intro j hj; have := List.mem_range.mp hj; omega)
  obtain ⟨s', jl⟩ := jl
  rw [List.nil_append, List.length_range] at jl
  have lc := lc_st (T := td.it) (cl := cl) (el := .call 1 (.cons (.call 2 (.cons (.loc 0) (.cons (.loc 4) .nil)) [] .nil) .nil) [] .nil) (it := .bi .range (.cons (.bi .max (.cons (.cst (.int 2)) (.cons (.bi .min (.cons (.bi .len (.cons (.loc 0) .nil)) (.cons (.cst (.int 6)) .nil))) .nil))) .nil)) (ifs := .nil) (t := [4]) (vs := [4]) (tp := false) (e := [some (.val sc), some (.val W1), some (.val W2), some (.val L), none]) (s := []) (ds := (List.range c).map natD)
    (by
      have bl : biD .len [sc] = some (.val (.int (ns.length : Int))) := by simp [biD, ln]
      refine range_j (xs := [.int (c : Int)]) ?_ ?_
      · simp [evX, evBs, evW, asB, slotB, frz, plainBi, bl, bm, bx]
      · rw [← range_nat]
        simp [rangeOf, b62_small (i := (c : Int)) (by omega) (by omega)])
    (by unfold szOk; simp; omega) rfl jl
  refine ⟨s', ret_nx a0 (ret_nx a1 (ret_nx a2 ?_))⟩
  have al := all_true c
  generalize List.replicate c (D.bl true) = ts at lc al
  simp [↓lc, exB, exS, evX, evBs, evW, asB, frz, treeO, lookO, plainBi, retO, i_law, al]
end K12

set_option Elab.async false
set_option linter.all false
set_option maxRecDepth 100000
set_option maxHeartbeats 410000
namespace K12
open PySem L2 Wk
theorem posv {st : Int × Int} {gs : Nat → Nat} {S : Nat} (h : MW.Per gs S) (q r : Nat) {t : Nat} (ht : t = q * S + r) : MW.pos st gs t = ((MW.pos st gs r).1 + q * ((MW.pos st gs S).1 - st.1), (MW.pos st gs r).2 + q * ((MW.pos st gs S).2 - st.2)) := by
  subst ht
  exact MW.pos_mul h r q
theorem stk : StD (.kt [.int 0, .int 0]) true (0, 0) := .inl ⟨rfl, by decide, by decide, by decide, by decide⟩
theorem at_lit {n : Nat} {x : Str} {k : Bool} {st : Int × Int} {l : Nat} {gs : Nat → Nat} {p t : Nat} {s : Sto} {i : Int} {P : Int × Int} (p0 : 0 < p) (p1 : p ≤ 300) (hp : MW.Per gs p) (ht : t ≤ 10 ^ 30) (hi : (t : Int) = i) (hP : MW.pos st gs t = P) : callI td.it (n + 5) 1001 [wkD x k st l gs p, .int i] [] s = .ok (prD P) s := by
  subst hi hP
  exact at_k p0 p1 hp ht
theorem goes_lit {n : Nat} {x : Str} {k : Bool} {st : Int × Int} {l : Nat} {gs : Nat → Nat} {p t : Nat} {s : Sto} {i : Int} {w : Str} (p0 : 0 < p) (p1 : p ≤ 300) (hp : MW.Per gs p) (hg : ∀ i, gs i < 4) (ht : t ≤ 10 ^ 30) (hi : (t : Int) = i) (hw : nesw (gs t) = w) : callI td.it (n + 5) 1002 [wkD x k st l gs p, .int i] [] s = .ok (.str w) s := by
  subst hi hw
  exact goes_k p0 p1 hp hg ht
theorem law_ok {ns : List Int} {sc : D} (hsc : ScD sc ns) : ∃ s', callI td.it (20 + 1) 0 [sc] [] [] = .ok (.bl true) s' := by
  obtain ⟨p1, a1, b1, c1, d1⟩ := walker_ok (n := 13) (x := "2 R") (l := 0) (s := []) (ds := [.str "2 R"]) (kws := []) rfl spl1 (by omega) stk
  obtain ⟨p2, a2, b2, c2, d2⟩ := walker_ok (n := 13) (x := "4 L 2 L 2 L 2 L") (l := 1) (s := []) (ds := [.str "4 L 2 L 2 L 2 L"]) (kws := [(40, .str "E")]) rfl spl2 (by omega) stk
  obtain ⟨p3, a3, b3, c3, d3⟩ := walker_ok (n := 13) (x := "1 R 1 L") (l := 0) (s := []) (ds := [.str "1 R 1 L"]) (kws := []) rfl spl3 (by omega) stk
  obtain ⟨p4, a4, b4, c4, d4⟩ := walker_ok (n := 13) (x := "B 1 L 9") (l := 0) (s := []) (ds := [.str "B 1 L 9"]) (kws := []) rfl spl4 (by omega) stk
  have P1 : MW.Per (MW.gl ((["2", "R"] : List Str).map odS) 0) 8 := MW.per _ _ 4 (by decide +kernel) (by decide +kernel)
  have P3 : MW.Per (MW.gl ((["1", "R", "1", "L"] : List Str).map odS) 0) 2 := MW.per _ _ 1 (by decide +kernel) (by decide +kernel)
  have v1 : ∀ t, t = 125000000000000000000000000000 * 8 + 0 → MW.pos (0, 0) (MW.gl ((["2", "R"] : List Str).map odS) 0) t = (0, 0) := by
    intro t ht
    rw [posv P1 _ _ ht]
    have e : MW.pos (0, 0) (MW.gl ((["2", "R"] : List Str).map odS) 0) 8 = (0, 0) := by decide +kernel
    rw [e]
    rfl
  have v3 : ∀ t, t = 500000000000000000000000000000 * 2 + 0 → MW.pos (0, 0) (MW.gl ((["1", "R", "1", "L"] : List Str).map odS) 0) t = (500000000000000000000000000000, 500000000000000000000000000000) := by
    intro t ht
    rw [posv P3 _ _ ht]
    have e : MW.pos (0, 0) (MW.gl ((["1", "R", "1", "L"] : List Str).map odS) 0) 2 = (1, 1) := by decide +kernel
    rw [e]
    rfl
  have v2 : MW.pos (0, 0) (MW.gl ((["4", "L", "2", "L", "2", "L", "2", "L"] : List Str).map odS) 1) 25 = (8, 1) := by decide +kernel
  have g1 : nesw (MW.gl ((["2", "R"] : List Str).map odS) 0 3) = "E" := by decide +kernel
  have g4 : nesw (MW.gl ((["B", "1", "L", "9"] : List Str).map odS) 0 0) = "S" := by decide +kernel
  have G1 := MW.gl_lt ((["2", "R"] : List Str).map odS) 0
  have G4 := MW.gl_lt ((["B", "1", "L", "9"] : List Str).map odS) 0
  generalize MW.gl ((["2", "R"] : List Str).map odS) 0 = gs1 at *
  generalize MW.gl ((["4", "L", "2", "L", "2", "L", "2", "L"] : List Str).map odS) 1 = gs2 at *
  generalize MW.gl ((["1", "R", "1", "L"] : List Str).map odS) 0 = gs3 at *
  generalize MW.gl ((["B", "1", "L", "9"] : List Str).map odS) 0 = gs4 at *
  obtain ⟨t1, ht1⟩ : ∃ t, t = 125000000000000000000000000000 * 8 + 0 := ⟨_, rfl⟩
  obtain ⟨t3, ht3⟩ : ∃ t, t = 500000000000000000000000000000 * 2 + 0 := ⟨_, rfl⟩
  have r1 := at_lit (n := 15) (x := "2 R") (k := true) (l := 0) (s := []) (i := 1000000000000000000000000000000) a1 b1 c1 (by omega) (by omega) (v1 t1 ht1)
  have r2 := goes_lit (n := 15) (x := "2 R") (k := true) (l := 0) (st := (0, 0)) (s := []) (i := 3) (t := 3) a1 b1 c1 G1 (by omega) rfl g1
  have r3 := at_lit (n := 15) (x := "4 L 2 L 2 L 2 L") (k := true) (l := 1) (s := []) (i := 25) (t := 25) a2 b2 c2 (by omega) rfl v2
  have r4 := at_lit (n := 15) (x := "1 R 1 L") (k := true) (l := 0) (s := []) (i := 1000000000000000000000000000000) a3 b3 c3 (by omega) (by omega) (v3 t3 ht3)
  have r5 := goes_lit (n := 15) (x := "B 1 L 9") (k := true) (l := 0) (st := (0, 0)) (s := []) (i := 0) (t := 0) a4 b4 c4 G4 (by omega) rfl g4
  obtain ⟨s', e⟩ := law_core hsc d1 d2 d3 d4 rfl rfl rfl rfl rfl r1 r2 r3 r4 r5 (fun j s hj => cup_ok (n := 19) hsc hj) (fun k s hc => right_ok (n := 11) hc)
  refine ⟨s', ?_⟩
  rw [call_fn (fi := i_law) rfl rfl, callF_all rfl]
  exact e
end K12

set_option Elab.async false
set_option linter.all false
set_option maxRecDepth 100000
set_option maxHeartbeats 0
open PySem PySem.W PySem.Calls PyProof.Rows
theorem K12.holds_of (law : ∀ (ns : List Int), ns.length ≤ 63 → ∀ sc, Wk.ScD sc ns → ∃ s', Wk.callI K12.td.it (20 + 1) 0 [sc] [] [] = .ok (.bl true) s') : PySem.Challenge.rw_evertreads_k12_whole_walks_step_by_step.Holds := by
  w_on; o_law
  refine HandSHeadRun.head_any (r := OpenLaw.row PySem.Challenge.rw_evertreads_k12_whole_walks_step_by_step) (q := view (OpenLaw.row PySem.Challenge.rw_evertreads_k12_whole_walks_step_by_step).prog [90]) (H := K12.hk) (ob := K12.ob) (M := 20000) (loose := K12.loose) (d := HandSHeadRun.topDef (OpenLaw.row PySem.Challenge.rw_evertreads_k12_whole_walks_step_by_step).prog 90) (kwd := []) K12.ob_eq
    (by kernel_rfl) (fun s => by kernel_rfl) K12.run (by kernel_rfl) (by kernel_rfl) (by kernel_rfl) (by rfl) (by first | assumption | decide +kernel) (by decide +kernel) ⟨rfl, rfl, rfl, rfl, rfl, by decide +kernel⟩ ?hw ?hc
  case hw => w_witness2
  case hc =>
    exact Wk.walkW (l := PySem.Challenge.rw_evertreads_k12_whole_walks_step_by_step) (t := K12.td) (nh := 4) (lid := 0) (m := 20) (f := K12.t_law) (p0 := 41) rfl (by kernel_rfl) K12.td_ok (by rfl) (by rfl) (by rfl) (by rfl) (by kernel_rfl) (by decide +kernel) ⟨rfl, by decide, by decide⟩ law

theorem PySem.Challenge.cw_evertreads_k12_whole_walks_step_by_step_holds : PySem.Challenge.rw_evertreads_k12_whole_walks_step_by_step.Holds := by
  exact K12.holds_of fun ns _ sc h => K12.law_ok h
