import PyProof.Rows.All
import Wide.All
import OpenK.AllK
import Wide.FinOn
import HandS.ForMost
import HandS.ForExc
import HandS.IsInst
import HandS.Deep
import HandS.TupAny
import HandS.Flow
import PySem.Challenge.RW_factsandfar_k01_concepts_and_axioms
import PyProof.StrLawsRepr
set_option Elab.async false
set_option linter.all false
set_option maxRecDepth 100000
set_option maxHeartbeats 4000000
/-! MP: a small Python over trees, with an evaluator. Values: trees (a list or dict that nobody will change is a tree too), references to cells. -/
namespace MP
open PySem

inductive A where
  | non | bl (b : Bool) | int (i : Int) | str (s : Str)
  | tup (xs : List A) | lst (xs : List A) | dct (kvs : List (A × A)) | ref (n : Nat)
  deriving Inhabited

inductive Cell where
  | lst (xs : List A) | dct (kvs : List (A × A)) | dead
  deriving Inhabited
abbrev Mem := List Cell

structure Exc where
  cls : Str
  fld : Option (Str × A)
  deriving Inhabited

inductive Out (α : Type) where
  | ok (a : α) (M : Mem)
  | exc (x : Exc) (M : Mem)
  | stuck
  deriving Inhabited
def Out.bind {α β : Type} (o : Out α) (f : α → Mem → Out β) : Out β := match o with
  | .ok a M => f a M
  | .exc x M => .exc x M
  | .stuck => .stuck
def Out.noExc {α : Type} (o : Out α) : Out α := match o with
  | .exc _ _ => .stuck
  | o => o
@[simp] theorem Out.bind_ok {α β : Type} (a : α) (M : Mem) (f : α → Mem → Out β) : (Out.ok a M).bind f = f a M := rfl
@[simp] theorem Out.bind_exc {α β : Type} (x : Exc) (M : Mem) (f : α → Mem → Out β) : (Out.exc x M : Out α).bind f = .exc x M := rfl
@[simp] theorem Out.bind_stuck {α β : Type} (f : α → Mem → Out β) : (Out.stuck : Out α).bind f = .stuck := rfl
@[simp] theorem Out.noExc_ok {α : Type} (a : α) (M : Mem) : (Out.ok a M).noExc = .ok a M := rfl

/-! ### trees as plain data -/
mutual
def A.toD : A → Option PyData
  | .non => some .none
  | .bl b => some (.bool b)
  | .int i => some (.int i)
  | .str s => some (.str s)
  | .tup xs => (A.toDs xs).map .tuple
  | .lst xs => (A.toDs xs).map .list
  | .dct _ => none
  | .ref _ => none
def A.toDs : List A → Option (List PyData)
  | [] => some []
  | x :: xs => match A.toD x, A.toDs xs with
    | some d, some ds => some (d :: ds)
    | _, _ => none
end
mutual
/-- .. the empty dict within -/
def A.toR : A → Option PyData
  | .non => some .none
  | .bl b => some (.bool b)
  | .int i => some (.int i)
  | .str s => some (.str s)
  | .tup xs => (A.toRs xs).map .tuple
  | .lst xs => (A.toRs xs).map .list
  | .dct kvs => match kvs with
    | [] => some (.dict [])
    | _ => none
  | .ref _ => none
def A.toRs : List A → Option (List PyData)
  | [] => some []
  | x :: xs => match A.toR x, A.toRs xs with
    | some d, some ds => some (d :: ds)
    | _, _ => none
end
mutual
/-- a list within -/
def A.hasL : A → Bool
  | .tup xs => A.hasLs xs
  | .lst _ => true
  | .ref _ => true
  | _ => false
def A.hasLs : List A → Bool
  | [] => false
  | x :: xs => A.hasL x || A.hasLs xs
end
def A.toDM (M : Mem) (a : A) : Option PyData := match a with
  | .ref n => match M[n]? with
    | some (.lst xs) => (A.toDs xs).map .list
    | _ => none
  | a => a.toD
def A.toRM (M : Mem) (a : A) : Option PyData := match a with
  | .ref n => match M[n]? with
    | some (.lst xs) => (A.toRs xs).map .list
    | _ => none
  | a => a.toR
/-- a list's items -/
def asL (M : Mem) (a : A) : Option (List A) := match a with
  | .lst xs => some xs
  | .ref n => match M[n]? with
    | some (.lst xs) => some xs
    | _ => none
  | _ => none
def asSeq (M : Mem) (a : A) : Option (List A) := match a with
  | .tup xs => some xs
  | a => asL M a
/-- what a for goes over -/
def itemsOf (a : A) : Option (List A) := match a with
  | .lst xs => some xs
  | .tup xs => some xs
  | .str s => some (s.cps.toList.map fun c => .str ⟨#[c]⟩)
  | _ => none

/-- a new list: kept as a cell of its own (o), or as a tree -/
def finL (o : Bool) (xs : List A) (M : Mem) : Out A :=
  if xs.length ≤ sizeLine then (if o = true then .ok (.ref M.length) (M ++ [.lst xs]) else .ok (.lst xs) M) else .stuck

/-! ### operators by values -/
def addA (o : Bool) (a b : A) (M : Mem) : Out A := match a with
  | .int i => match b with
    | .int j => .ok (.int (i + j)) M
    | _ => .stuck
  | .str x => match b with
    | .str y => if x.length + y.length ≤ sizeLine then .ok (.str (x ++ y)) M else .stuck
    | _ => .stuck
  | .tup xs => match b with
    | .tup ys => if xs.length + ys.length ≤ sizeLine then .ok (.tup (xs ++ ys)) M else .stuck
    | _ => .stuck
  | a => match asL M a with
    | some xs => match asL M b with
      | some ys => finL o (xs ++ ys) M
      | none => .stuck
    | none => .stuck
def okMul (i j : Int) : Bool := (decide (-(2 ^ 64) < i) && decide (i < 2 ^ 64)) || (decide (-(2 ^ 64) < j) && decide (j < 2 ^ 64))
def binI (op : Operator) (i j : Int) (M : Mem) : Out A := match op with
  | .Sub => .ok (.int (i - j)) M
  | .Mult => if okMul i j = true then .ok (.int (i * j)) M else .stuck
  | .FloorDiv => if 0 < j ∧ j < 1073741824 then .ok (.int (i / j)) M else .stuck
  | .Mod => if 0 < j then .ok (.int (i % j)) M else .stuck
  | .Pow => if 0 ≤ j ∧ j ≤ 1000000 ∧ i.natAbs < 2 ^ 64 then .ok (.int (i ^ j.toNat)) M else .stuck
  | _ => .stuck
def binN (op : Operator) (a b : A) (M : Mem) : Out A := match a with
  | .int i => match b with
    | .int j => binI op i j M
    | _ => .stuck
  | _ => .stuck
def binA (o : Bool) (op : Operator) (a b : A) (M : Mem) : Out A := match op with
  | .Add => addA o a b M
  | op => binN op a b M

def scalA : A → A → Bool
  | .non, .non => true | .non, .int _ => true | .int _, .non => true | .non, .bl _ => true | .bl _, .non => true | .non, .str _ => true | .str _, .non => true
  | .int _, .int _ => true | .bl _, .bl _ => true | .str _, .str _ => true
  | .int _, .str _ => true | .str _, .int _ => true | .bl _, .str _ => true | .str _, .bl _ => true
  | _, _ => false
/-- == of two flat things of which at most one kind is a number -/
def scalEq : A → A → Bool
  | .non, .non => true
  | .int i, .int j => decide (i = j)
  | .bl a, .bl b => decide (a = b)
  | .str x, .str y => decide (x = y)
  | _, _ => false
def eqA (a b : A) (M : Mem) : Option Bool :=
  if scalA a b = true then some (scalEq a b) else
    match a.toDM M with
    | some d => match b.toDM M with
      | some e => if (SeqAt.shaped d && SeqAt.shaped e) = true then some (PyData.eqv d e) else none
      | none => none
    | none => none
def isNon : A → Bool
  | .non => true
  | _ => false
def flatA : A → Bool
  | .non => true
  | .bl _ => true
  | .int _ => true
  | .str _ => true
  | _ => false
def eqF : A → A → Bool
  | .non, .non => true
  | .bl a, .bl b => a == b
  | .bl a, .int b => (if a then 1 else 0) == b
  | .int a, .bl b => a == (if b then 1 else 0)
  | .int a, .int b => a == b
  | .str a, .str b => a == b
  | _, _ => false
/-- x in y -/
def inSeq (a b : A) (M : Mem) : Option Bool := match asSeq M b with
  | some ys => if (flatA a && ys.all flatA) = true then some (ys.any fun y => eqF y a) else
      match a.toDM M with
      | some d => match b.toDM M with
        | some (.list ds) => if (SeqAt.shaped d && SeqAt.shaped (.list ds)) = true then some (ds.any fun z => PyData.eqv z d) else none
        | _ => none
      | none => none
  | none => none
def inStr (a : A) (z : Str) : Option Bool := match a with
  | .str x => if x.cps.size = 1 then some (decide (x.cps.getD 0 0 ∈ z.cps.toList)) else none
  | _ => none
def inA (a b : A) (M : Mem) : Option Bool := match b with
  | .str z => inStr a z
  | b => inSeq a b M
def ltI (op : CmpOp) (i j : Int) : Option Bool := match op with
  | .Lt => some (decide (i < j))
  | .LtE => some (decide (i ≤ j))
  | .Gt => some (decide (j < i))
  | .GtE => some (decide (j ≤ i))
  | _ => none
def ltA (op : CmpOp) (a b : A) : Option Bool := match a with
  | .int i => match b with
    | .int j => ltI op i j
    | _ => none
  | _ => none
def isNone? (a b : A) : Option Bool := if isNon b = true then some (isNon a) else none
def cmpB (op : CmpOp) (a b : A) (M : Mem) : Option Bool := match op with
  | .Eq => eqA a b M
  | .NotEq => (eqA a b M).map (!·)
  | .Is => isNone? a b
  | .IsNot => (isNone? a b).map (!·)
  | .In => inA a b M
  | .NotIn => (inA a b M).map (!·)
  | op => ltA op a b
def outB (o : Option Bool) (M : Mem) : Out A := match o with
  | some b => .ok (.bl b) M
  | none => .stuck
def outT (o : Option Bool) (M : Mem) : Out Bool := match o with
  | some b => .ok b M
  | none => .stuck

/-- truth -/
def truA (a : A) (M : Mem) : Option Bool := match a with
  | .non => some false
  | .bl b => some b
  | .int i => some (i != 0)
  | .str s => if s.length ≤ sizeLine then some ((s.length : Int) != 0) else none
  | .tup xs => some (!xs.isEmpty)
  | a => (asL M a).map fun xs => !xs.isEmpty
/-- a value's type -/
inductive Ty where
  | non | bool | int | str | tuple | list | dict
  deriving DecidableEq
def Ty.nm : Ty → String
  | .non => "NoneType" | .bool => "bool" | .int => "int" | .str => "str" | .tuple => "tuple" | .list => "list" | .dict => "dict"
def tyA (a : A) (M : Mem) : Option Ty := match a with
  | .non => some .non
  | .bl _ => some .bool
  | .int _ => some .int
  | .str _ => some .str
  | .tup _ => some .tuple
  | .lst _ => some .list
  | .dct _ => some .dict
  | .ref n => match M[n]? with
    | some (.lst _) => some .list
    | _ => none
/-- isinstance(x of type t, c) -/
def isiT (t c : Ty) : Bool := decide (t = c) || (decide (t = .bool) && decide (c = .int))
def isiA (a : A) (c : Ty) (M : Mem) : Option Bool := (tyA a M).map fun t => isiT t c
def lenA (a : A) (M : Mem) : Option Nat := match a with
  | .str s => if s.length ≤ sizeLine then some s.length else none
  | a => (asSeq M a).map List.length
def allBl : List A → Option (List Bool)
  | [] => some []
  | .bl b :: r => (allBl r).map (b :: ·)
  | _ => none
def outI (o : Option Nat) (M : Mem) : Out A := match o with
  | some n => .ok (.int n) M
  | none => .stuck
def reprA (a : A) (M : Mem) : Out A := match a.toRM M with
  | some d => if (d.showable && (!d.hasDict || !a.hasL) && decide (d.shown.length ≤ sizeLine) && decide (d.depth ≤ 60)) = true then .ok (.str d.shown) M else .stuck
  | none => .stuck
def one? : List A → Option A
  | [a] => some a
  | _ => none
def ints2? : List A → Option (Int × Int)
  | [.int i, .int j] => some (i, j)
  | _ => none
/-- a built-in function -/
inductive B where
  | len | all | any | max | min | int | repr | list | tuple
  deriving DecidableEq, Inhabited
def B.nm : B → String
  | .len => "len" | .all => "all" | .any => "any" | .max => "max" | .min => "min" | .int => "int" | .repr => "repr" | .list => "list" | .tuple => "tuple"
def toIntA (a : A) : Option Int := match a with
  | .int i => some i
  | .bl k => some (if k then 1 else 0)
  | _ => none
def outV (o : Option A) (M : Mem) : Out A := match o with
  | some a => .ok a M
  | none => .stuck
def blt1 (o : Bool) (f : B) (a : A) (M : Mem) : Out A := match f with
  | .len => outI (lenA a M) M
  | .all => outV (((asL M a).bind allBl).map fun bs => .bl (bs.all id)) M
  | .any => outV (((asL M a).bind allBl).map fun bs => .bl (bs.any id)) M
  | .int => outV ((toIntA a).map .int) M
  | .repr => reprA a M
  | .list => match asSeq M a with
    | some ys => finL o ys M
    | none => .stuck
  | .tuple => outV ((asSeq M a).map .tup) M
  | _ => .stuck
def blt2 (f : B) (i j : Int) (M : Mem) : Out A := match f with
  | .max => .ok (.int (if j > i then j else i)) M
  | .min => .ok (.int (if j < i then j else i)) M
  | _ => .stuck
def bltA (o : Bool) (f : B) (xs : List A) (M : Mem) : Out A := match one? xs with
  | some a => blt1 o f a M
  | none => match ints2? xs with
    | some p => blt2 f p.1 p.2 M
    | none => .stuck
/-- xs[i] -/
def idxA (a i : A) (M : Mem) : Out A := match i with
  | .int k => match a with
    | .str z => if z.length ≤ sizeLine then (match L2.atI z.cps.toList k with
        | some c => .ok (.str ⟨#[c]⟩) M
        | none => .stuck) else .stuck
    | a => match asSeq M a with
      | some xs => match L2.atI xs k with
        | some x => .ok x M
        | none => .stuck
      | none => .stuck
  | _ => .stuck
def cutA (xs : List A) (lo hi : Option Int) : List A := (xs.drop (HT.sIx xs.length 0 lo)).take (HT.sIx xs.length xs.length hi - HT.sIx xs.length 0 lo)
def sliceA (o : Bool) (a : A) (lo hi : Option Int) (M : Mem) : Out A := match a with
  | .tup xs => .ok (.tup (cutA xs lo hi)) M
  | a => match asL M a with
    | some xs => finL o (cutA xs lo hi) M
    | none => .stuck
/-- o.m(..) of a built-in type -/
inductive Mth where
  | append
  deriving DecidableEq, Inhabited
def Mth.nm : Mth → String
  | .append => "append"
def appA (a x : A) (M : Mem) : Out A := match a with
  | .ref n => match M[n]? with
    | some (.lst ys) => if ys.length < sizeLine then .ok .non (M.set n (.lst (ys ++ [x]))) else .stuck
    | _ => .stuck
  | _ => .stuck
/-- the receiver is of the method's type -/
def recvOk (m : Mth) (a : A) (M : Mem) : Bool := match m with
  | .append => (asL M a).isSome
def methA (m : Mth) (a : A) (xs : List A) (M : Mem) : Out A := match m with
  | .append => match one? xs with
    | some x => appA a x M
    | none => .stuck
/-- a list given over: from now on a tree -/
def frzA (a : A) (M : Mem) : Out A := match a with
  | .ref n => match M[n]? with
    | some (.lst xs) => .ok (.lst xs) (M.set n .dead)
    | _ => .stuck
  | a => .ok a M
/-- a[i] = x -/
def setA (a i x : A) (M : Mem) : Out Unit := match a with
  | .ref n => match M[n]? with
    | some (.lst ys) => match i with
      | .int k => match L2.ixN ys.length k with
        | some j => .ok () (M.set n (.lst (ys.set j x)))
        | none => .stuck
      | _ => .stuck
    | _ => .stuck
  | _ => .stuck

/-! ### the text -/
inductive Tg where
  | name (i : Nat)
  | tup (is : List Nat)
  deriving Inhabited, DecidableEq
def Tg.slots : Tg → List Nat
  | .name i => [i]
  | .tup is => is
mutual
inductive E where
  | var (i : Nat)
  | con (c : Const)
  | glob (x : Str)
  | tup (es : List E)
  | lst (o : Bool) (es : List E)
  | bin (o : Bool) (op : Operator) (a b : E)
  | neg (a : E)
  | cmp (op : CmpOp) (a b : E)
  | chain (op op' : CmpOp) (a b c : E)
  | and (a b : E)
  | or (a b : E)
  | not (a : E)
  | ite (c a b : E)
  | call (f : Str) (es : List E)
  | blt (o : Bool) (f : B) (es : List E)
  | isi (a : E) (c : Ty)
  | idx (a i : E)
  | slice (o : Bool) (a : E) (lo hi : Option E)
  | lc (o : Bool) (vs : List Nat) (elt : E) (tg : Tg) (it : It) (ifs : List E)
  | meth (m : Mth) (a : E) (es : List E)
  | frzv (a : E)
  | dnew
inductive It where
  | over (e : E)
  | range1 (e : E)
end
instance : Inhabited E := ⟨.var 0⟩
inductive S where
  | asg (i : Nat) (e : E)
  | asgT (tg : Tg) (e : E)
  | set (a i e : E)
  | expr (e : E)
  | ret (e : E)
  | retN
  | ife (c : E) (a b : List S)
  | forS (tg : Tg) (it : It) (body : List S)
  | whl (c : E) (body : List S)
  | brk | cnt | pass
  deriving Inhabited

abbrev Loc := List (Option A)
inductive Fl where
  | nxt | brk | cnt | ret (a : A)
  deriving Inhabited

def cA : Const → Option A
  | .none => some .non
  | .bool b => some (.bl b)
  | .int i => some (.int i)
  | .str s => some (.str s)
  | _ => none
def wipeA (ς : Loc) : List Nat → Loc
  | [] => ς
  | v :: vs => (wipeA ς vs).set v none
def setAll (ς : Loc) : List Nat → List A → Option Loc
  | [], [] => some ς
  | i :: is, x :: xs => setAll (ς.set i (some x)) is xs
  | _, _ => none
def bindT (tg : Tg) (x : A) (ς : Loc) : Option Loc := match tg with
  | .name i => some (ς.set i (some x))
  | .tup is => match x with
    | .tup xs => setAll ς is xs
    | _ => none

structure Par where
  call : Str → List A → Mem → Out A
  glob : Str → Option A
  wf : Nat
instance : Inhabited Par := ⟨⟨fun _ _ _ => .stuck, fun _ => none, 0⟩⟩

/-- a comprehension over the items -/
def lcL (f : A → Mem → Out (Option A)) : List A → Mem → Out (List A)
  | [], M => .ok [] M
  | x :: xs, M => (f x M).bind fun r M1 => (lcL f xs M1).bind fun ys M2 => .ok (match r with | some y => y :: ys | none => ys) M2
def forL (f : A → Loc → Mem → Out (Fl × Loc)) : List A → Loc → Mem → Out (Fl × Loc)
  | [], ς, M => .ok (.nxt, ς) M
  | x :: xs, ς, M => (f x ς M).bind fun r M1 => match r.1 with
    | .nxt => forL f xs r.2 M1
    | .cnt => forL f xs r.2 M1
    | .brk => .ok (.nxt, r.2) M1
    | .ret a => .ok (.ret a, r.2) M1
def whileL (c : Loc → Mem → Out Bool) (b : Loc → Mem → Out (Fl × Loc)) : Nat → Loc → Mem → Out (Fl × Loc)
  | 0, _, _ => .stuck
  | n + 1, ς, M => (c ς M).bind fun t M1 => if t = true then (b ς M1).bind (fun r M2 => match r.1 with
    | .nxt => whileL c b n r.2 M2
    | .cnt => whileL c b n r.2 M2
    | .brk => .ok (.nxt, r.2) M2
    | .ret a => .ok (.ret a, r.2) M2) else .ok (.nxt, ς) M1
def rangeA (n : Int) : List A := (List.range n.toNat).map fun (k : Nat) => A.int (k : Int)
def optI (o : Option A) : Option (Option Int) := match o with
  | none => some none
  | some (.int i) => some (some i)
  | _ => none

mutual
def evE (P : Par) : E → Loc → Mem → Out A
  | .var i, ς, M => match ς[i]? with
    | some (some a) => .ok a M
    | _ => .stuck
  | .con c, _, M => match cA c with
    | some a => .ok a M
    | none => .stuck
  | .glob x, _, M => match P.glob x with
    | some a => .ok a M
    | none => .stuck
  | .tup es, ς, M => (evEs P es ς M).bind fun xs M1 => if xs.length ≤ sizeLine then .ok (.tup xs) M1 else .stuck
  | .lst o es, ς, M => (evEs P es ς M).bind fun xs M1 => finL o xs M1
  | .bin o op a b, ς, M => (evE P a ς M).bind fun x M1 => (evE P b ς M1).bind fun y M2 => binA o op x y M2
  | .neg a, ς, M => (evE P a ς M).bind fun x M1 => match x with
    | .int i => .ok (.int (-i)) M1
    | _ => .stuck
  | .cmp op a b, ς, M => (evE P a ς M).bind fun x M1 => (evE P b ς M1).bind fun y M2 => outB (cmpB op x y M2) M2
  | .chain op op' a b c, ς, M => (evE P a ς M).bind fun x M1 => (evE P b ς M1).bind fun y M2 => match cmpB op x y M2 with
    | some true => (evE P c ς M2).bind fun z M3 => outB (cmpB op' y z M3) M3
    | some false => .ok (.bl false) M2
    | none => .stuck
  | .and a b, ς, M => (evE P a ς M).bind fun x M1 => match x with
    | .bl true => evE P b ς M1
    | .bl false => .ok (.bl false) M1
    | _ => .stuck
  | .or a b, ς, M => (evE P a ς M).bind fun x M1 => match x with
    | .bl true => .ok (.bl true) M1
    | .bl false => evE P b ς M1
    | _ => .stuck
  | .not a, ς, M => (evE P a ς M).bind fun x M1 => match x with
    | .bl b => .ok (.bl (!b)) M1
    | _ => .stuck
  | .ite c a b, ς, M => (evT P c ς M).bind fun t M1 => if t = true then evE P a ς M1 else evE P b ς M1
  | .call f es, ς, M => (evEs P es ς M).bind fun xs M1 => P.call f xs M1
  | .blt o f es, ς, M => (evEs P es ς M).bind fun xs M1 => bltA o f xs M1
  | .isi a c, ς, M => (evE P a ς M).bind fun x M1 => outB (isiA x c M1) M1
  | .idx a i, ς, M => (evE P a ς M).bind fun x M1 => (evE P i ς M1).bind fun y M2 => idxA x y M2
  | .slice o a lo hi, ς, M => (evE P a ς M).bind fun x M1 => (evO P lo ς M1).bind fun l M2 => (evO P hi ς M2).bind fun h M3 => sliceA o x l h M3
  | .lc o vs elt tg it ifs, ς, M => (evI P it ς M).bind fun xs M1 => (lcL (fun x M2 => match bindT tg x (wipeA ς vs) with
      | some ς2 => (evTs P ifs ς2 M2).bind fun b M3 => if b = true then (evE P elt ς2 M3).bind fun y M4 => .ok (some y) M4 else .ok none M3
      | none => .stuck) xs M1).noExc.bind fun ys M2 => finL o ys M2
  | .meth m a es, ς, M => (evE P a ς M).bind fun x M1 => if recvOk m x M1 = true then (evEs P es ς M1).bind fun xs M2 => methA m x xs M2 else .stuck
  | .frzv a, ς, M => (evE P a ς M).bind fun x M1 => frzA x M1
  | .dnew, _, M => .ok (.dct []) M
def evEs (P : Par) : List E → Loc → Mem → Out (List A)
  | [], _, M => .ok [] M
  | e :: es, ς, M => (evE P e ς M).bind fun x M1 => (evEs P es ς M1).bind fun xs M2 => .ok (x :: xs) M2
/-- as a test -/
def evT (P : Par) : E → Loc → Mem → Out Bool
  | .and a b, ς, M => (evT P a ς M).bind fun t M1 => if t = true then evT P b ς M1 else .ok false M1
  | .or a b, ς, M => (evT P a ς M).bind fun t M1 => if t = true then .ok true M1 else evT P b ς M1
  | .not a, ς, M => (evT P a ς M).bind fun t M1 => .ok (!t) M1
  | .ite c a b, ς, M => (evT P c ς M).bind fun t M1 => if t = true then evT P a ς M1 else evT P b ς M1
  | .cmp op a b, ς, M => (evE P a ς M).bind fun x M1 => (evE P b ς M1).bind fun y M2 => outT (cmpB op x y M2) M2
  | .chain op op' a b c, ς, M => (evE P a ς M).bind fun x M1 => (evE P b ς M1).bind fun y M2 => match cmpB op x y M2 with
    | some true => (evE P c ς M2).bind fun z M3 => outT (cmpB op' y z M3) M3
    | some false => .ok false M2
    | none => .stuck
  | e, ς, M => (evE P e ς M).bind fun x M1 => outT (truA x M1) M1
def evTs (P : Par) : List E → Loc → Mem → Out Bool
  | [], _, M => .ok true M
  | e :: es, ς, M => (evT P e ς M).bind fun t M1 => if t = true then evTs P es ς M1 else .ok false M1
def evO (P : Par) : Option E → Loc → Mem → Out (Option Int)
  | none, _, M => .ok none M
  | some e, ς, M => (evE P e ς M).bind fun x M1 => match x with
    | .int i => .ok (some i) M1
    | _ => .stuck
def evI (P : Par) : It → Loc → Mem → Out (List A)
  | .over e, ς, M => (evE P e ς M).bind fun x M1 => match itemsOf x with
    | some xs => .ok xs M1
    | none => .stuck
  | .range1 e, ς, M => (evE P e ς M).bind fun x M1 => match x with
    | .int n => if -(2 ^ 62) ≤ n ∧ n < 2 ^ 62 then .ok (rangeA n) M1 else .stuck
    | _ => .stuck
end

mutual
def evS (P : Par) : S → Loc → Mem → Out (Fl × Loc)
  | .asg i e, ς, M => (evE P e ς M).bind fun x M1 => .ok (.nxt, ς.set i (some x)) M1
  | .asgT tg e, ς, M => (evE P e ς M).bind fun x M1 => match bindT tg x ς with
    | some ς' => .ok (.nxt, ς') M1
    | none => .stuck
  | .set a i e, ς, M => (evE P e ς M).bind fun x M1 => (evE P a ς M1).bind fun y M2 => (evE P i ς M2).bind fun z M3 => (setA y z x M3).bind fun _ M4 => .ok (.nxt, ς) M4
  | .expr e, ς, M => (evE P e ς M).bind fun _ M1 => .ok (.nxt, ς) M1
  | .ret e, ς, M => (evE P e ς M).bind fun x M1 => .ok (.ret x, ς) M1
  | .retN, ς, M => .ok (.ret .non, ς) M
  | .ife c a b, ς, M => (evT P c ς M).bind fun t M1 => if t = true then evSs P a ς M1 else evSs P b ς M1
  | .forS tg it body, ς, M => (evI P it ς M).bind fun xs M1 => forL (fun x ς1 M2 => match bindT tg x ς1 with
      | some ς2 => evSs P body ς2 M2
      | none => .stuck) xs ς M1
  | .whl c body, ς, M => whileL (fun ς M => evT P c ς M) (fun ς M => evSs P body ς M) P.wf ς M
  | .brk, ς, M => .ok (.brk, ς) M
  | .cnt, ς, M => .ok (.cnt, ς) M
  | .pass, ς, M => .ok (.nxt, ς) M
def evSs (P : Par) : List S → Loc → Mem → Out (Fl × Loc)
  | [], ς, M => .ok (.nxt, ς) M
  | s :: ss, ς, M => (evS P s ς M).bind fun r M1 => match r.1 with
    | .nxt => evSs P ss r.2 M1
    | _ => .ok r M1
end
structure Fn where
  ps : List Str
  ns : List Str
  body : List S
  deriving Inhabited
abbrev Tbl := List (Str × Fn)
def startA (n : Nat) (xs : List A) : Loc := xs.map some ++ List.replicate (n - xs.length) none
def retOf (o : Out (Fl × Loc)) : Out A := o.bind fun r M => match r.1 with
  | .nxt => .ok .non M
  | .ret a => .ok a M
  | _ => .stuck
def runF (wf : Nat) (T : Tbl) (G : Str → Option A) : Nat → Str → List A → Mem → Out A
  | 0, _, _, _ => .stuck
  | k + 1, f, xs, M => match T.lookup f with
    | some d => if xs.length = d.ps.length then retOf (evSs ⟨runF wf T G k, G, wf⟩ d.body (startA d.ns.length xs) M) else .stuck
    | none => .stuck
end MP

/-! MP, part B: how a tree stands in the abstract heap; what an evaluation's end says of it -/
namespace MP
open PySem PySem.Spec PyProof.Rows L2

/-- what is never changed once it is tracked -/
def stab : HO → Bool
  | .tup _ => true
  | .frz _ _ => true
  | .xd _ => true
  | _ => false
/-- from (ρ, H) to (ρ', H'): new cells at new addresses; what is no cell, and what is never changed, stays -/
structure Grow (ρ : List Addr) (H : Hp) (ρ' : List Addr) (H' : Hp) : Prop where
  ad : ∃ t, ρ' = ρ ++ t ∧ ∀ a ∈ t, H a = none
  st : ∀ b o, H b = some o → (b ∉ ρ ∨ stab o = true) → H' b = some o
  th : ∀ b, H b ≠ none → H' b ≠ none
theorem Grow.refl (ρ : List Addr) (H : Hp) : Grow ρ H ρ H := ⟨⟨[], by simp, fun a h => by simp at h⟩, fun _ _ h _ => h, fun _ h => h⟩
theorem Grow.trans {ρ ρ1 ρ2 : List Addr} {H H1 H2 : Hp} (g : Grow ρ H ρ1 H1) (k : Grow ρ1 H1 ρ2 H2) : Grow ρ H ρ2 H2 := by
  obtain ⟨t, rfl, ht⟩ := g.ad
  obtain ⟨u, rfl, hu⟩ := k.ad
  refine ⟨⟨t ++ u, by simp, fun a ha => ?_⟩, fun b o h hb => ?_, fun b h => k.th b (g.th b h)⟩
  · rcases List.mem_append.mp ha with h | h
    · exact ht a h
    · have := hu a h
      cases q : H a with
      | none => rfl
      | some o => exact absurd this (g.th a (by rw [q]; simp))
  · refine k.st b o (g.st b o h hb) ?_
    rcases hb with hb | hb
    · left
      intro hm
      rcases List.mem_append.mp hm with h' | h'
      · exact hb h'
      · rw [ht b h'] at h; cases h
    · exact .inr hb
theorem Grow.get {ρ ρ' : List Addr} {H H' : Hp} (g : Grow ρ H ρ' H') {n : Nat} {a : Addr} (h : ρ[n]? = some a) : ρ'[n]? = some a := by
  obtain ⟨t, rfl, _⟩ := g.ad
  rw [List.getElem?_append_left (List.getElem?_eq_some_iff.mp h).1]; exact h
/-- a new thing is laid at a place of no cell -/
theorem Grow.laid {ρ : List Addr} {H : Hp} {p : Addr} {o : HO} (hp : H p = none) : Grow ρ H ρ (upd H p o) :=
  ⟨⟨[], by simp, fun a h => by simp at h⟩, fun b u h _ => by rw [upd_ne (ne_of_none h hp)]; exact h, fun b h => by
    by_cases e : b = p
    · subst e; exact absurd hp h
    · rw [upd_ne e]; exact h⟩
/-- .. as a cell -/
theorem Grow.cell {ρ : List Addr} {H : Hp} {p : Addr} {o : HO} (hp : H p = none) : Grow ρ H (ρ ++ [p]) (upd H p o) :=
  ⟨⟨[p], rfl, fun a h => by simp at h; subst h; exact hp⟩, (Grow.laid (ρ := ρ) (o := o) hp).st, (Grow.laid (ρ := ρ) (o := o) hp).th⟩
theorem Grow.laid2 {ρ : List Addr} {H : Hp} {p : Addr} {o u : HO} (hp : H p = none) : Grow ρ H ρ (upd (upd H p o) p u) := by
  rw [upd_upd]; exact Grow.laid hp
/-- a cell is written -/
theorem Grow.write {ρ : List Addr} {H : Hp} {p : Addr} {o u : HO} (hm : p ∈ ρ) (ho : H p = some o) (hs : stab o = false) : Grow ρ H ρ (upd H p u) := by
  refine ⟨⟨[], by simp, fun a h => by simp at h⟩, fun b v h hb => ?_, fun b h => ?_⟩
  · rw [upd_ne]
    · exact h
    · rintro rfl
      rcases hb with hb | hb
      · exact hb hm
      · rw [ho] at h
        cases h
        rw [hs] at hb
        exact Bool.noConfusion hb
  · by_cases e : b = p
    · subst e; rw [upd_same]; simp
    · rw [upd_ne e]; exact h

/-- a list that nobody will change -/
def FzL (K : PySem.W.Frag) (H : Hp) (a : Addr) (xs : List V) : Prop :=
  (∃ o, H a = some (.frz o (.lst xs))) ∨
    ∃ (its : Array Value) (n : Nat), K.lookup a = some { cls := .type "list", data := .seq its n } ∧ its.size ≤ sizeLine ∧ Vals xs its.toList
/-- a list that is read -/
def SqX (K : PySem.W.Frag) (H : Hp) (a : Addr) (xs : List V) : Prop :=
  Rd H a (.lst xs) ∨
    ∃ (its : Array Value) (n : Nat), K.lookup a = some { cls := .type "list", data := .seq its n } ∧ its.size ≤ sizeLine ∧ Vals xs its.toList
theorem SqX.of {K : PySem.W.Frag} {H : Hp} {a : Addr} {xs : List V} (h : H a = some (.lst xs)) : SqX K H a xs := .inl (.inl h)
theorem SqX.sq {K : PySem.W.Frag} {H : Hp} {a : Addr} {xs : List V} (h : SqX K H a xs) : SqL K H a xs := by
  rcases h with h | ⟨its, n, h1, h2, h3⟩
  · exact .inl h
  · exact .inr ⟨_, its, n, h1, rfl, rfl, rfl, h2, h3⟩
theorem Inv.listX {X : Cx} {pins : List (Addr × Obj)} {σ : L2.St} {H : Hp} {s : Shared} {a : Addr} {xs : List V} (I : Inv X pins σ H s) (h : SqX X.K H a xs) : ∃ (its : List Value) (n : Nat), Vals xs its ∧ s.heap.get? a = some { cls := .type "list", data := .seq its.toArray n } ∧ xs.length ≤ sizeLine := by
  rcases h with h | ⟨its, n, h1, h2, h3⟩
  · obtain ⟨z, its, n, r, e⟩ := h.ok I.hok
    exact ⟨its, n, r, e, z⟩
  · refine ⟨its.toList, n, h3, ?_, ?_⟩
    · have := I.kIn a _ h1
      simpa using this
    · have e := h3.length
      simp only [Array.length_toList] at e
      omega
theorem FzL.sx {K : PySem.W.Frag} {H : Hp} {a : Addr} {xs : List V} (h : FzL K H a xs) : SqX K H a xs := by
  rcases h with h | h
  · exact .inl (.inr h)
  · exact .inr h
theorem FzL.sq {K : PySem.W.Frag} {H : Hp} {a : Addr} {xs : List V} (h : FzL K H a xs) : SqL K H a xs := by
  exact h.sx.sq
theorem FzL.mono {K : PySem.W.Frag} {ρ ρ' : List Addr} {H H' : Hp} {a : Addr} {xs : List V} (g : Grow ρ H ρ' H') (h : FzL K H a xs) : FzL K H' a xs := by
  rcases h with ⟨o, h⟩ | h
  · exact .inl ⟨o, g.st _ _ h (.inr rfl)⟩
  · exact .inr h
theorem SqT.mono {K : PySem.W.Frag} {ρ ρ' : List Addr} {H H' : Hp} {a : Addr} {xs : List V} (g : Grow ρ H ρ' H') (h : SqT K H a xs) : SqT K H' a xs := by
  rcases h with (h | ⟨o, h⟩) | h
  · exact .inl (.inl (g.st _ _ h (.inr rfl)))
  · exact .inl (.inr ⟨o, g.st _ _ h (.inr rfl)⟩)
  · exact .inr h

mutual
inductive Rep (K : PySem.W.Frag) (ρ : List Addr) (H : Hp) : A → V → Prop
  | non : Rep K ρ H .non .non
  | bl (b : Bool) : Rep K ρ H (.bl b) (.bl b)
  | int (i : Int) : Rep K ρ H (.int i) (.int i)
  | str (x : Str) : Rep K ρ H (.str x) (.str x)
  | tup {a : Addr} {xs : List A} {vs : List V} : SqT K H a vs → RepAll K ρ H xs vs → Rep K ρ H (.tup xs) (.ref a)
  | lst {a : Addr} {xs : List A} {vs : List V} : FzL K H a vs → RepAll K ρ H xs vs → Rep K ρ H (.lst xs) (.ref a)
  | dct {a : Addr} {o : Obj} : H a = some (.frz o (.dK [])) → Rep K ρ H (.dct []) (.ref a)
  | ref {a : Addr} {n : Nat} : ρ[n]? = some a → Rep K ρ H (.ref n) (.ref a)
inductive RepAll (K : PySem.W.Frag) (ρ : List Addr) (H : Hp) : List A → List V → Prop
  | nil : RepAll K ρ H [] []
  | cons {x : A} {v : V} {xs : List A} {vs : List V} : Rep K ρ H x v → RepAll K ρ H xs vs → RepAll K ρ H (x :: xs) (v :: vs)
end
section
variable {K : PySem.W.Frag} {ρ ρ' : List Addr} {H H' : Hp}
mutual
theorem Rep.mono (g : Grow ρ H ρ' H') : ∀ {x : A} {v : V}, Rep K ρ H x v → Rep K ρ' H' x v
  | _, _, .non => .non
  | _, _, .bl b => .bl b
  | _, _, .int i => .int i
  | _, _, .str s => .str s
  | _, _, .tup h r => .tup (SqT.mono g h) (RepAll.mono g r)
  | _, _, .lst h r => .lst (h.mono g) (RepAll.mono g r)
  | _, _, .dct h => .dct (g.st _ _ h (.inr rfl))
  | _, _, .ref h => .ref (g.get h)
theorem RepAll.mono (g : Grow ρ H ρ' H') : ∀ {xs : List A} {vs : List V}, RepAll K ρ H xs vs → RepAll K ρ' H' xs vs
  | _, _, .nil => .nil
  | _, _, .cons h r => .cons (Rep.mono g h) (RepAll.mono g r)
end
theorem RepAll.length : ∀ {xs : List A} {vs : List V}, RepAll K ρ H xs vs → xs.length = vs.length
  | _, _, .nil => rfl
  | _, _, .cons _ r => by simp [r.length]
theorem RepAll.get : ∀ {xs : List A} {vs : List V} {i : Nat} {x : A}, RepAll K ρ H xs vs → xs[i]? = some x → ∃ v, vs[i]? = some v ∧ Rep K ρ H x v
  | _, _, _, _, .nil, e => by simp at e
  | _, _, 0, _, .cons h _, e => by simp at e; subst e; exact ⟨_, rfl, h⟩
  | _, _, i + 1, x, .cons _ r, e => by
    obtain ⟨v, h1, h2⟩ := r.get (i := i) (x := x) (by simpa using e)
    exact ⟨v, by simpa using h1, h2⟩
theorem RepAll.getV : ∀ {xs : List A} {vs : List V} {i : Nat} {v : V}, RepAll K ρ H xs vs → vs[i]? = some v → ∃ x, xs[i]? = some x ∧ Rep K ρ H x v
  | _, _, _, _, .nil, e => by simp at e
  | _, _, 0, _, .cons h _, e => by simp at e; subst e; exact ⟨_, rfl, h⟩
  | _, _, i + 1, v, .cons _ r, e => by
    obtain ⟨x, h1, h2⟩ := r.getV (i := i) (v := v) (by simpa using e)
    exact ⟨x, by simpa using h1, h2⟩
theorem RepAll.append : ∀ {xs ys : List A} {vs ws : List V}, RepAll K ρ H xs vs → RepAll K ρ H ys ws → RepAll K ρ H (xs ++ ys) (vs ++ ws)
  | _, _, _, _, .nil, s => s
  | _, _, _, _, .cons h r, s => .cons h (r.append s)
theorem RepAll.take : ∀ {xs : List A} {vs : List V} (n : Nat), RepAll K ρ H xs vs → RepAll K ρ H (xs.take n) (vs.take n)
  | _, _, 0, _ => .nil
  | _, _, _ + 1, .nil => .nil
  | _, _, n + 1, .cons h r => .cons h (RepAll.take n r)
theorem RepAll.drop : ∀ {xs : List A} {vs : List V} (n : Nat), RepAll K ρ H xs vs → RepAll K ρ H (xs.drop n) (vs.drop n)
  | _, _, 0, r => r
  | _, _, _ + 1, .nil => .nil
  | _, _, n + 1, .cons _ r => RepAll.drop n r
theorem RepAll.set {x : A} {v : V} (h : Rep K ρ H x v) : ∀ {xs : List A} {vs : List V} (i : Nat), RepAll K ρ H xs vs → RepAll K ρ H (xs.set i x) (vs.set i v)
  | _, _, _, .nil => .nil
  | _, _, 0, .cons _ r => .cons h r
  | _, _, i + 1, .cons q r => .cons q (RepAll.set h i r)

def CellRep (K : PySem.W.Frag) (ρ : List Addr) (H : Hp) (a : Addr) : Cell → Prop
  | .lst xs => ∃ vs, H a = some (.lst vs) ∧ RepAll K ρ H xs vs
  | .dct _ => False
  | .dead => True
/-- the cells -/
structure RepM (K : PySem.W.Frag) (ρ : List Addr) (H : Hp) (M : Mem) : Prop where
  len : ρ.length = M.length
  nd : ρ.Nodup
  th : ∀ a ∈ ρ, H a ≠ none
  cell : ∀ (n : Nat) (c : Cell) (a : Addr), M[n]? = some c → ρ[n]? = some a → CellRep K ρ H a c
/-- the names -/
def RepS (K : PySem.W.Frag) (ρ : List Addr) (H : Hp) (ς : Loc) (σ : L2.St) : Prop :=
  ς.length = σ.length ∧ ∀ (i : Nat) (x : A), ς[i]? = some (some x) → ∃ v, σ[i]? = some (some v) ∧ Rep K ρ H x v
theorem RepS.mono {ς : Loc} {σ : L2.St} (g : Grow ρ H ρ' H') (h : RepS K ρ H ς σ) : RepS K ρ' H' ς σ :=
  ⟨h.1, fun i x e => let ⟨v, a, b⟩ := h.2 i x e; ⟨v, a, b.mono g⟩⟩
theorem RepS.set {ς : Loc} {σ : L2.St} {i : Nat} {x : A} {v : V} (h : RepS K ρ H ς σ) (r : Rep K ρ H x v) : RepS K ρ H (ς.set i (some x)) (σ.set i (some v)) := by
  refine ⟨by simp [h.1], fun j y e => ?_⟩
  by_cases hj : j = i
  · subst hj
    have hl : j < ς.length := by
      have := (List.getElem?_eq_some_iff.mp e).1
      simpa using this
    rw [List.getElem?_set_self hl] at e
    cases e
    exact ⟨v, by rw [List.getElem?_set_self (by rw [← h.1]; exact hl)], r⟩
  · rw [List.getElem?_set_ne (Ne.symm hj)] at e
    obtain ⟨w, a, b⟩ := h.2 j y e
    exact ⟨w, by rw [List.getElem?_set_ne (Ne.symm hj)]; exact a, b⟩
theorem RepS.unset {ς : Loc} {σ : L2.St} {i : Nat} (h : RepS K ρ H ς σ) : RepS K ρ H (ς.set i none) (σ.set i none) := by
  refine ⟨by simp [h.1], fun j y e => ?_⟩
  by_cases hj : j = i
  · subst hj
    have hl : j < ς.length := by
      have := (List.getElem?_eq_some_iff.mp e).1
      simpa using this
    rw [List.getElem?_set_self hl] at e
    cases e
  · rw [List.getElem?_set_ne (Ne.symm hj)] at e
    obtain ⟨w, a, b⟩ := h.2 j y e
    exact ⟨w, by rw [List.getElem?_set_ne (Ne.symm hj)]; exact a, b⟩
theorem RepS.wipe {ς : Loc} {σ : L2.St} (h : RepS K ρ H ς σ) : ∀ vs : List Nat, RepS K ρ H (wipeA ς vs) (wipe σ vs)
  | [] => h
  | v :: vs => (RepS.wipe h vs).unset
/-- the cells stay where something that is no cell is laid -/
theorem RepM.laid {M : Mem} {p : Addr} {o : HO} (m : RepM K ρ H M) (hp : H p = none) : RepM K ρ (upd H p o) M := by
  have g : Grow ρ H ρ (upd H p o) := Grow.laid hp
  refine ⟨m.len, m.nd, fun a ha => g.th a (m.th a ha), fun n c a h1 h2 => ?_⟩
  have hc := m.cell n c a h1 h2
  have ha : a ≠ p := fun e => m.th a (List.mem_of_getElem? h2) (by rw [e]; exact hp)
  cases c with
  | lst xs =>
    obtain ⟨vs, e, r⟩ := hc
    exact ⟨vs, by rw [upd_ne ha]; exact e, r.mono g⟩
  | dct _ => exact hc
  | dead => trivial
theorem RepM.laid2 {M : Mem} {p : Addr} {o u : HO} (m : RepM K ρ H M) (hp : H p = none) : RepM K ρ (upd (upd H p o) p u) M := by
  rw [upd_upd]; exact m.laid hp
/-- a place of no cell is changed -/
theorem RepM.other {M : Mem} {p : Addr} {o u : HO} (m : RepM K ρ H M) (hp : p ∉ ρ) (ho : H p = some o) (hs : stab o = false) : RepM K ρ (upd H p u) M ∧ ∀ {x v}, Rep K ρ H x v → Rep K ρ (upd H p u) x v := by
  have kt : ∀ {a vs}, SqT K H a vs → SqT K (upd H p u) a vs := fun {a vs} h => by
    rcases h with (h | ⟨w, h⟩) | h
    · exact .inl (.inl (by rw [upd_ne]; exact h; rintro rfl; rw [ho] at h; cases h; cases hs))
    · exact .inl (.inr ⟨w, by rw [upd_ne]; exact h; rintro rfl; rw [ho] at h; cases h; cases hs⟩)
    · exact .inr h
  have kl : ∀ {a vs}, FzL K H a vs → FzL K (upd H p u) a vs := fun {a vs} h => by
    rcases h with ⟨w, h⟩ | h
    · exact .inl ⟨w, by rw [upd_ne]; exact h; rintro rfl; rw [ho] at h; cases h; cases hs⟩
    · exact .inr h
  have ka : ∀ n : Nat, (∀ {x v}, sizeOf x < n → Rep K ρ H x v → Rep K ρ (upd H p u) x v) ∧ (∀ {xs vs}, sizeOf xs < n → RepAll K ρ H xs vs → RepAll K ρ (upd H p u) xs vs) := by
    intro n
    induction n with
    | zero => exact ⟨fun h => absurd h (Nat.not_lt_zero _), fun h => absurd h (Nat.not_lt_zero _)⟩
    | succ n ih =>
      refine ⟨fun {x v} hn h => ?_, fun {xs vs} hn h => ?_⟩
      · cases h with
        | non => exact .non
        | bl b => exact .bl b
        | int i => exact .int i
        | str s => exact .str s
        | tup h r => exact .tup (kt h) (ih.2 (by simp at hn; omega) r)
        | lst h r => exact .lst (kl h) (ih.2 (by simp at hn; omega) r)
        | dct h => exact .dct (by rw [upd_ne]; exact h; rintro rfl; rw [ho] at h; cases h; cases hs)
        | ref h => exact .ref h
      · cases h with
        | nil => exact .nil
        | cons h r => exact .cons (ih.1 (by simp at hn; omega) h) (ih.2 (by simp at hn; omega) r)
  refine ⟨⟨m.len, m.nd, fun a ha => ?_, fun n c a h1 h2 => ?_⟩, fun {x v} h => (ka (sizeOf x + 1)).1 (Nat.lt_succ_self _) h⟩
  · rw [upd_ne (fun e : a = p => hp (by rw [← e]; exact ha))]; exact m.th a ha
  · have hc := m.cell n c a h1 h2
    have ha : a ≠ p := fun e => hp (by rw [← e]; exact List.mem_of_getElem? h2)
    cases c with
    | lst xs =>
      obtain ⟨vs, e, r⟩ := hc
      exact ⟨vs, by rw [upd_ne ha]; exact e, (ka (sizeOf xs + 1)).2 (Nat.lt_succ_self _) r⟩
    | dct _ => exact hc
    | dead => trivial
/-- a new cell -/
theorem RepM.cellNew {M : Mem} {p : Addr} {xs : List A} {vs : List V} (m : RepM K ρ H M) (hp : H p = none) (r : RepAll K ρ H xs vs) : RepM K (ρ ++ [p]) (upd H p (.lst vs)) (M ++ [.lst xs]) := by
  have g : Grow ρ H (ρ ++ [p]) (upd H p (.lst vs)) := Grow.cell hp
  have hnp : p ∉ ρ := fun h => m.th p h hp
  refine ⟨by simp [m.len], ?_, fun a ha => ?_, fun n c a h1 h2 => ?_⟩
  · rw [List.nodup_append]
    exact ⟨m.nd, by simp, fun a ha b hb e => by simp at hb; subst hb; subst e; exact hnp ha⟩
  · rcases List.mem_append.mp ha with h | h
    · exact g.th a (m.th a h)
    · simp at h; subst h; rw [upd_same]; simp
  · by_cases hn : n < M.length
    · rw [List.getElem?_append_left hn] at h1
      rw [List.getElem?_append_left (by rw [m.len]; exact hn)] at h2
      have hc := m.cell n c a h1 h2
      have ha : a ≠ p := fun e => hnp (by rw [← e]; exact List.mem_of_getElem? h2)
      cases c with
      | lst xs =>
        obtain ⟨vs, e, r⟩ := hc
        exact ⟨vs, by rw [upd_ne ha]; exact e, r.mono g⟩
      | dct _ => exact hc
      | dead => trivial
    · rw [List.getElem?_append_right (Nat.le_of_not_lt hn)] at h1
      rw [List.getElem?_append_right (by rw [m.len]; exact Nat.le_of_not_lt hn), m.len] at h2
      cases hk : n - M.length with
      | zero =>
        rw [hk] at h1 h2
        simp at h1 h2
        subst h1 h2
        exact ⟨vs, upd_same, r.mono g⟩
      | succ k => rw [hk] at h1; simp at h1
/-- a cell's list is changed -/
theorem RepM.cellSet {M : Mem} {n : Nat} {p : Addr} {xs : List A} {vs0 vs : List V} (m : RepM K ρ H M) (hn : ρ[n]? = some p) (h0 : H p = some (.lst vs0)) (r : RepAll K ρ H xs vs) : RepM K ρ (upd H p (.lst vs)) (M.set n (.lst xs)) := by
  have g : Grow ρ H ρ (upd H p (.lst vs)) := Grow.write (List.mem_of_getElem? hn) h0 rfl
  refine ⟨by simp [m.len], m.nd, fun a ha => g.th a (m.th a ha), fun j c a h1 h2 => ?_⟩
  by_cases hj : j = n
  · subst hj
    rw [hn] at h2; cases h2
    have hl : j < M.length := by rw [← m.len]; exact (List.getElem?_eq_some_iff.mp hn).1
    rw [List.getElem?_set_self hl] at h1
    cases h1
    exact ⟨vs, upd_same, r.mono g⟩
  · rw [List.getElem?_set_ne (Ne.symm hj)] at h1
    have hc := m.cell j c a h1 h2
    have ha : a ≠ p := fun e => by
      subst e
      exact hj (nodup_ixA m.nd h2 hn)
    cases c with
    | lst xs =>
      obtain ⟨ws, e, r⟩ := hc
      exact ⟨ws, by rw [upd_ne ha]; exact e, r.mono g⟩
    | dct _ => exact hc
    | dead => trivial
where
  nodup_ixA {l : List Addr} (hN : l.Nodup) {i j : Nat} {x : Addr} (a : l[i]? = some x) (b : l[j]? = some x) : i = j := by
    obtain ⟨h1, e1⟩ := List.getElem?_eq_some_iff.mp a
    obtain ⟨h2, e2⟩ := List.getElem?_eq_some_iff.mp b
    exact (List.getElem_inj hN).mp (e1.trans e2.symm)
/-- a cell is given over -/
theorem RepM.cellFrz {M : Mem} {n : Nat} {p : Addr} {o : Obj} {vs : List V} (m : RepM K ρ H M) (hn : ρ[n]? = some p) (h0 : H p = some (.lst vs)) : RepM K ρ (upd H p (.frz o (.lst vs))) (M.set n .dead) := by
  have g : Grow ρ H ρ (upd H p (.frz o (.lst vs))) := Grow.write (List.mem_of_getElem? hn) h0 rfl
  refine ⟨by simp [m.len], m.nd, fun a ha => g.th a (m.th a ha), fun j c a h1 h2 => ?_⟩
  by_cases hj : j = n
  · subst hj
    have hl : j < M.length := by rw [← m.len]; exact (List.getElem?_eq_some_iff.mp hn).1
    rw [List.getElem?_set_self hl] at h1
    cases h1
    trivial
  · rw [List.getElem?_set_ne (Ne.symm hj)] at h1
    have hc := m.cell j c a h1 h2
    have ha : a ≠ p := fun e => by
      subst e
      exact hj (RepM.cellSet.nodup_ixA m.nd h2 hn)
    cases c with
    | lst xs =>
      obtain ⟨ws, e, r⟩ := hc
      exact ⟨ws, by rw [upd_ne ha]; exact e, r.mono g⟩
    | dct _ => exact hc
    | dead => trivial
end

/-! ### ends -/
abbrev WX0 : WX := fun _ _ _ _ => False
/-- an exception as it flies: its class's address and its own dict -/
def ExcRep (K : PySem.W.Frag) (mg : Str → Option Value) (ρ : List Addr) (H : Hp) (x : Exc) (cls : Value) (d : Option Addr) : Prop :=
  (∃ C, mg x.cls = some (.ref C) ∧ cls = .ref C) ∧ match x.fld with
    | none => d = none
    | some (f, a) => ∃ dd v, d = some dd ∧ H dd = some (.xd [(f, v)]) ∧ Rep K ρ H a v
/-- what an evaluation's end says: with any heap in which the value and the cells stand, what follows holds -/
def Post {α β : Type} (K : PySem.W.Frag) (mg : Str → Option Value) (R : List Addr → Hp → α → β → Prop) (ρ : List Addr) (H : Hp) (o : Out α) (Q : β → Hp → Prop) (E : Value → Option Addr → Hp → Prop) : Prop := match o with
  | .ok a M => ∀ (v : β) (ρ' : List Addr) (H' : Hp), Grow ρ H ρ' H' → R ρ' H' a v → RepM K ρ' H' M → Q v H'
  | .exc x M => ∀ (cls : Value) (d : Option Addr) (ρ' : List Addr) (H' : Hp), Grow ρ H ρ' H' → ExcRep K mg ρ' H' x cls d → RepM K ρ' H' M → E cls d H'
  | .stuck => False
section
variable {K : PySem.W.Frag} {mg : Str → Option Value} {α β γ δ : Type} {R : List Addr → Hp → α → β → Prop} {S : List Addr → Hp → γ → δ → Prop} {ρ ρ' : List Addr} {H H' : Hp} {o : Out α} {Q Q' : β → Hp → Prop} {E E' : Value → Option Addr → Hp → Prop}
theorem Post.grow (g : Grow ρ H ρ' H') (h : Post K mg R ρ H o Q E) : Post K mg R ρ' H' o Q E := by
  cases o with
  | ok a M => exact fun v ρ2 H2 g2 => h v ρ2 H2 (g.trans g2)
  | exc x M => exact fun c d ρ2 H2 g2 => h c d ρ2 H2 (g.trans g2)
  | stuck => exact h
theorem Post.imp (h : Post K mg R ρ H o Q E) (q : ∀ v H, Q v H → Q' v H) (e : ∀ c d H, E c d H → E' c d H) : Post K mg R ρ H o Q' E' := by
  cases o with
  | ok a M => exact fun v ρ2 H2 g2 r m => q _ _ (h v ρ2 H2 g2 r m)
  | exc x M => exact fun c d ρ2 H2 g2 r m => e _ _ _ (h c d ρ2 H2 g2 r m)
  | stuck => exact h
/-- one after the other -/
theorem Post.bind {f : α → Mem → Out γ} {Q : δ → Hp → Prop} (h : Post K mg S ρ H (o.bind f) Q E) :
    Post K mg R ρ H o (fun v H1 => ∃ a M1 ρ1, Grow ρ H ρ1 H1 ∧ R ρ1 H1 a v ∧ RepM K ρ1 H1 M1 ∧ Post K mg S ρ1 H1 (f a M1) Q E) E := by
  cases o with
  | ok a M => exact fun v ρ1 H1 g r m => ⟨a, M, ρ1, g, r, m, h.grow g⟩
  | exc x M => exact h
  | stuck => exact h
theorem Post.noExc (h : Post K mg R ρ H o.noExc Q E) : Post K mg R ρ H o Q E' := by
  cases o with
  | ok a M => exact h
  | exc x M => exact False.elim h
  | stuck => exact h
end
/-- the state stands for (ς, M) -/
structure At (K : PySem.W.Frag) (ρ : List Addr) (H : Hp) (ς : Loc) (σ : L2.St) (M : Mem) : Prop where
  s : RepS K ρ H ς σ
  m : RepM K ρ H M

/-! ### readings -/
section
variable (K : PySem.W.Frag) (mg : Str → Option Value) (W : WX)
def LE (f : Loc → Mem → Out A) : TE := fun σ H Q => ∃ ρ ς M, At K ρ H ς σ M ∧ Post K mg (Rep K) ρ H (f ς M) Q fun c d H' => W c d σ H'
def LA (f : Loc → Mem → Out (List A)) : TA := fun σ H Q => ∃ ρ ς M, At K ρ H ς σ M ∧ Post K mg (RepAll K) ρ H (f ς M) Q fun c d H' => W c d σ H'
def LT (f : Loc → Mem → Out Bool) : TT := fun σ H Q => ∃ ρ ς M, At K ρ H ς σ M ∧ Post K mg (fun _ _ a v => a = v) ρ H (f ς M) Q fun c d H' => W c d σ H'
def LO (f : Loc → Mem → Out (Option Int)) : TO := fun σ H Q => ∃ ρ ς M, At K ρ H ς σ M ∧ Post K mg (fun _ _ a v => a = v) ρ H (f ς M) Q fun c d H' => W c d σ H'
/-- the iterator J goes over the items -/
def ItRep (J : L2.It) (ρ : List Addr) (H : Hp) (xs : List A) : Prop := ∀ ρ' H', Grow ρ H ρ' H' → J.stop xs.length H' ∧ ∀ i x, xs[i]? = some x → J.go i H' ∧ ∀ v H'', J.yld i H' v H'' → Grow ρ' H' ρ' H'' ∧ Rep K ρ' H'' x v ∧ ∀ M, RepM K ρ' H' M → RepM K ρ' H'' M
def LI (f : Loc → Mem → Out (List A)) : TI := fun σ H R => ∃ ρ ς M, At K ρ H ς σ M ∧ Post K mg (fun ρ H xs J => ItRep K J ρ H xs) ρ H (f ς M) R fun c d H' => W c d σ H'
def LG (tg : Tg) : TG := fun v σ H Q => ∃ ρ ς M x, At K ρ H ς σ M ∧ Rep K ρ H x v ∧ ∃ ς', bindT tg x ς = some ς' ∧ ∀ σ', RepS K ρ H ς' σ' → (∀ j, j ∉ tg.slots → σ'[j]? = σ[j]?) → Q σ' H
/-- a statement's end -/
def PostS (ρ : List Addr) (H : Hp) (o : Out (Fl × Loc)) (D : Ends) : Prop := match o with
  | .ok (fl, ς) M => ∀ (ρ' : List Addr) (H' : Hp), Grow ρ H ρ' H' → match fl with
    | .nxt => ∀ σ', At K ρ' H' ς σ' M → D.nx σ' H'
    | .brk => ∀ σ', At K ρ' H' ς σ' M → D.bk σ' H'
    | .cnt => ∀ σ', At K ρ' H' ς σ' M → D.ct σ' H'
    | .ret a => ∀ v, Rep K ρ' H' a v → RepM K ρ' H' M → D.rt v H'
  | .exc x M => ∀ (cls : Value) (d : Option Addr) (ρ' : List Addr) (H' : Hp) (σ' : L2.St), Grow ρ H ρ' H' → ExcRep K mg ρ' H' x cls d → RepM K ρ' H' M → W cls d σ' H'
  | .stuck => False
def LS (f : Loc → Mem → Out (Fl × Loc)) : TS := fun D σ H => ∃ ρ ς M, At K ρ H ς σ M ∧ PostS K mg W ρ H (f ς M) D
end
end MP

/-! MP, part C: judgements weakened, ghost steps, defs by their promise, rules by values -/
namespace MP
open PySem PySem.Spec PyProof.Rows L2

section
variable {X : Cx} {pins : List (Addr × Obj)} {σ : L2.St} {H : Hp} {s : Shared}
theorem pe_w {e : Expr} {t t' : TE} (h : PE X e t) (w : ∀ σ H Q, t' σ H Q → t σ H Q) : PE X e t' := ⟨fun pins s σ H Q I q => h.run pins s σ H Q I (w _ _ _ q)⟩
theorem pt_w {e : Expr} {t t' : TT} (h : PT X e t) (w : ∀ σ H Q, t' σ H Q → t σ H Q) : PT X e t' := ⟨fun pins s σ H Q I q => h.run pins s σ H Q I (w _ _ _ q)⟩
theorem pw_w {e : Expr} {t t' : TT} (h : PW X e t) (w : ∀ σ H Q, t' σ H Q → t σ H Q) : PW X e t' := ⟨fun wh pins s σ H Q I q => h.run wh pins s σ H Q I (w _ _ _ q)⟩
theorem pts_w {e : List Expr} {t t' : TT} (h : PTs X e t) (w : ∀ σ H Q, t' σ H Q → t σ H Q) : PTs X e t' := ⟨fun pins s σ H Q I q => h.run pins s σ H Q I (w _ _ _ q)⟩
theorem pa_w {e : List Expr} {t t' : TA} (h : PA X e t) (w : ∀ σ H Q, t' σ H Q → t σ H Q) : PA X e t' := ⟨fun pos pins s σ H Q I q => h.run pos pins s σ H Q I (w _ _ _ q)⟩
theorem po_w {e : Option Expr} {t t' : TO} (h : PO X e t) (w : ∀ σ H Q, t' σ H Q → t σ H Q) : PO X e t' := ⟨fun pins s σ H Q I q => h.run pins s σ H Q I (w _ _ _ q)⟩
theorem pi_w {tg e : Expr} {t t' : TI} (h : PI X tg e t) (w : ∀ σ H Q, t' σ H Q → t σ H Q) : PI X tg e t' := ⟨fun pins s σ H Q I q => h.run pins s σ H Q I (w _ _ _ q)⟩
theorem pg_w {e : Expr} {t t' : TG} (h : PG X e t) (w : ∀ v σ H Q, t' v σ H Q → t v σ H Q) : PG X e t' := ⟨fun pins s σ H v u Q I r q => h.run pins s σ H v u Q I r (w _ _ _ _ q)⟩
theorem ps_w {e : Stmt} {t t' : TS} (h : PS X e t) (w : ∀ D σ H, t' D σ H → t D σ H) : PS X e t' := ⟨fun pins s σ H D I q => h.run pins s σ H D I (w _ _ _ q)⟩
theorem pss_w {e : List Stmt} {t t' : TS} (h : PSs X e t) (w : ∀ D σ H, t' D σ H → t D σ H) : PSs X e t' := ⟨fun pins s σ H D I q => h.run pins s σ H D I (w _ _ _ q)⟩

/-! ### a list given over (nobody will change it): a ghost step -/
theorem Inv.freeze {p : Addr} {vs : List V} (I : Inv X pins σ H s) (h : H p = some (.lst vs)) : ∃ o, Inv X pins σ (upd H p (.frz o (.lst vs))) s := by
  obtain ⟨z, its, n, r, e⟩ := I.hok p _ h
  refine ⟨{ cls := .type "list", data := .seq its.toArray n }, ?_⟩
  have np : ∀ {b : Addr} {u : HO}, H b = some u → (∀ ws, u ≠ .lst ws) → b ≠ p := fun {b u} hb hu q => by
    subst q
    rw [h] at hb
    cases hb
    exact hu _ rfl
  have un : Un X.fs [] H (upd H p (.frz { cls := .type "list", data := .seq its.toArray n } (.lst vs))) s.heap s.heap := by
    refine ⟨fun b o q _ _ _ => q, fun b o q _ _ _ => ⟨o.slots, q⟩, fun b o q n _ => ?_, fun b o q _ => ⟨o, q⟩, fun b xs q => ?_, fun b o u q => ?_, fun b ps q => ⟨#[], ?_⟩⟩
    · rw [upd_ne]
      · exact n
      · rintro rfl
        rw [h] at n
        cases n
    · rw [upd_ne (np q fun ws => by intro z; cases z)]; exact q
    · rw [upd_ne (np q fun ws => by intro z; cases z)]; exact q
    · rw [upd_ne (np q fun ws => by intro z; cases z)]; simpa using q
  have hok : HOk X.prog X.w (upd H p (.frz { cls := .type "list", data := .seq its.toArray n } (.lst vs))) s.heap := fun b u q => by
    by_cases hb : b = p
    · subst hb
      rw [upd_same] at q
      cases q
      exact ⟨e, z, its, n, r, e⟩
    · rw [upd_ne hb] at q
      refine (I.hok b u q).stay (fun _ _ _ q => q) (fun c q => ?_) fun c xs q => ?_
      · rw [upd_ne (np q fun ws => by intro z; cases z)]; exact q
      · rw [upd_ne (np q fun ws => by intro z; cases z)]; exact q
  exact I.un (h' := s.heap) (t' := s.toks) un hok
/-- what follows may be shown from the heap as it is, or with a list given over -/
def Fz (Q : VK) : VK := fun v H => Q v H ∨ ∃ p vs, H p = some (.lst vs) ∧ ∀ o, Q v (upd H p (.frz o (.lst vs)))
theorem pe_fz {e : Expr} {t : TE} (h : PE X e t) : PE X e (fun σ H Q => t σ H (Fz Q)) := by
  refine ⟨fun pins s σ H Q I q => thn (h.run pins s σ H _ I q) fun u s1 ⟨v, H1, I1, r, q1⟩ => ?_⟩
  rcases q1 with q1 | ⟨p, vs, hp, q1⟩
  · exact ⟨v, H1, I1, r, q1⟩
  · obtain ⟨o, I2⟩ := Inv.freeze I1 hp
    exact ⟨v, _, I2, r, q1 o⟩
def FzN (N : L2.St → Hp → Prop) : L2.St → Hp → Prop := fun σ H => N σ H ∨ ∃ p vs, H p = some (.lst vs) ∧ ∀ o, N σ (upd H p (.frz o (.lst vs)))
theorem ps_fz {st : Stmt} {t : TS} (h : PS X st t) : PS X st (fun D σ H => t { D with nx := FzN D.nx } σ H) := by
  refine ⟨fun pins s σ H D I q => thn (h.run pins s σ H _ I q) fun f s1 q1 => ?_⟩
  cases f with
  | next =>
    obtain ⟨σ', H1, I1, q1⟩ := q1
    rcases q1 with q1 | ⟨p, vs, hp, q1⟩
    · exact ⟨σ', H1, I1, q1⟩
    · obtain ⟨o, I2⟩ := Inv.freeze I1 hp
      exact ⟨σ', _, I2, q1 o⟩
  | brk => exact q1
  | cont => exact q1
  | ret u => exact q1
end

/-! ### defs -/
/-- a def keeps its promise: as the hand layer's, and no repr is under way -/
structure FnG (P : Program) (w : World) (K : PySem.W.Frag) (mg : Str → Option Value) (base : Heap) (k : Nat) (f : Addr) (fd : FuncData) (ps : List Str) (sp : Sp) : Prop where
  len : ∀ vs H Q E, sp vs H Q E → vs.length = ps.length
  run : ∀ (A : Around) (outer : List Env) (s : Shared) (H : Hp) (args : Args) (us : List Value) (vs : List V) (Q : VK) (E : XK), Room k A → A.guards = some [] → Env0 P w K mg base A outer s H → BindsTo s fd args (ps.zip us) → Vals vs us → sp vs H Q E →
    codeAny (model P w) A (.call (.ref f) args) (CR (L2.CX P w) outer P w H s Q E) s
theorem run_fnG {X : Cx} {W : WX} {k : Nat} {f : Addr} {fd : FuncData} {ps : List Str} {sp : Sp} {E : XK} {pins : List (Addr × Obj)} {σ : L2.St} {H : Hp} {s : Shared} {Q : VK} {us : List Value} {vs : List V}
    (F : FnG X.prog X.w X.K X.mg X.base k f fd ps sp) (hr : Room k X.A) (hgd : X.A.guards = some []) (hb : Binds X.K fd ps []) (tk : Takes X W) (hE : ∀ cls d H', E cls d H' → W cls d σ H') (I : Inv X pins σ H s) (r : Vals vs us) (h : sp vs H Q E) :
    wpAny (model X.prog X.w) X.A (call (.ref f) us) (EP X pins σ Q) X.xe s := by
  have hl : us.length = ps.length := by rw [← r.length]; exact F.len _ _ _ _ h
  have hb' := hb s us I.kIn (by simpa using hl)
  rw [List.append_nil] at hb'
  refine wpAny_call (codeAny_mono (F.run X.A X.stack s H ⟨us, []⟩ us vs Q E hr hgd I.env0 hb' r h) fun r s' hq => ?_)
  cases r with
  | error e => exact tk e s' (XE.of_call I hE hq)
  | ok fl =>
    cases fl with
    | ret u => exact I.after hq
    | next => exact False.elim hq
    | brk => exact False.elim hq
    | cont => exact False.elim hq
theorem fn_ofG {P : Program} {w : World} {K : PySem.W.Frag} {mg : Str → Option Value} {base : Heap} {k : Nat} {f : Addr} {name qual : Str} {params : Arguments} {body : List Stmt} {scope : Scope} {dV kV doc pm cdv ct oc : Value} {an od : Option Addr}
    {osl : Array (Option Value)} {N ps : List Str} {sp : Sp} (lk : K.lookup f = some ⟨oc, od, .func (PySem.W.fnOf name qual params body scope dV kV doc pm an cdv ct), osl⟩) (hcd : PySem.W.codeIn K cdv qual = true) (S : FnScope N ps scope)
    (len : ∀ vs H Q E, sp vs H Q E → vs.length = ps.length)
    (hbody : ∀ (A : Around) (outer : List Env) (s : Shared) (H : Hp) (vs : List V) (Q : VK) (E : XK), Room k (A.deeper (envOfC qual scope s.heap.objs.size f cdv)) → A.guards = some [] → sp vs H Q E →
      ∃ t, PSs (cxOf (L2.CX P w) P w K mg base N qual scope f cdv A outer s H E) body t ∧ t { nx := fun _ H' => Q .non H', rt := Q } (start N vs) H) :
    FnG P w K mg base (k + 1) f (PySem.W.fnOf name qual params body scope dV kV doc pm an cdv ct) ps sp := by
  refine ⟨len, fun A outer s H args us vs Q E hr hgd e0 hb r hsp => ?_⟩
  have hl := len _ _ _ _ hsp
  have KX : K.In s.heap := e0.mod.kin.keeps fun b o e => (e0.bs b o e).1
  have lim : s.heap.NoLimit := e0.mod.nolimit.keeps fun b o e => (e0.bs b o e).1
  have hkind : ∀ y ∈ ps.zip us, scope.names.lookup y.1 = some .local ∨ (scope.names.lookup y.1 = some .cell ∧ ((cellsFrom (s.heap.objs.size + 1) scope.names []).lookup y.1).isSome = true) := fun ⟨n, v⟩ hy => by
    rcases S.par n (List.of_mem_zip hy).1 with q | q
    · exact .inl q
    · exact .inr ⟨q, PySem.W.cellsFrom_some _ _ _ (.inl q)⟩
  refine codeAny_call_function hr.depth (KX _ _ lk) rfl S.co S.gen rfl (PySem.W.codeRec_of KX hcd) (hb _ _ _ _ ?_)
  refine wpAny_newFunctionEnv_cells S.kind hkind fun env he s1 x => ?_
  subst he
  refine ⟨lim.keeps x.toInCall.keep, codeAny_func ?_⟩
  obtain ⟨t, ht, hq⟩ := hbody A outer s H vs Q E (hr.deeper _) hgd hsp
  have I : Inv (cxOf (L2.CX P w) P w K mg base N qual scope f cdv A outer s H E) [] (start N vs) H s1 := inv_start S hr.hd e0 hl r x
  refine wpAny_mono (ht.run [] s1 (start N vs) H _ I hq) (fun fl s' hs => ?_) fun e s' hs => hs
  have fin : ∀ {σ' : L2.St} {H' : Hp} {v : V} {u : Value}, Inv (cxOf (L2.CX P w) P w K mg base N qual scope f cdv A outer s H E) [] σ' H' s' → RelV v u → Q v H' → CE outer P w H s Q u s' :=
    fun {σ' H' v u} J rv q => ⟨v, H', J.os, J.bare, J.base, J.hok, rv, q⟩
  cases fl with
  | ret u =>
    obtain ⟨v, σ', H', J, rv, q⟩ := hs
    exact fin J rv q
  | next =>
    obtain ⟨σ', H', J, q⟩ := hs
    exact fin (v := V.non) (u := Value.none) J rfl q
  | brk =>
    obtain ⟨_, _, _, q⟩ := hs
    exact False.elim q
  | cont =>
    obtain ⟨_, _, _, q⟩ := hs
    exact False.elim q
/-- a def's promise by its evaluation -/
def spOf (K : PySem.W.Frag) (mg : Str → Option Value) (g : List A → Mem → Out A) (n : Nat) : Sp := fun vs H Q E =>
  vs.length = n ∧ ∃ ρ M xs, RepAll K ρ H xs vs ∧ RepM K ρ H M ∧ Post K mg (Rep K) ρ H (g xs M) Q E

/-! ### plain data -/
section
variable {K : PySem.W.Frag} {ρ : List Addr} {H : Hp}
mutual
theorem Rep.dp : ∀ {x : A} {v : V} {d : PyData}, Rep K ρ H x v → A.toD x = some d → Dp K H v d
  | _, _, _, .non, e => by simp [A.toD] at e; subst e; exact .non
  | _, _, _, .bl b, e => by simp [A.toD] at e; subst e; exact .bl b
  | _, _, _, .int i, e => by simp [A.toD] at e; subst e; exact .int i
  | _, _, _, .str s, e => by simp [A.toD] at e; subst e; exact .str s
  | _, _, _, .tup h r, e => by
    simp only [A.toD, Option.map_eq_some_iff] at e
    obtain ⟨ds, e, rfl⟩ := e
    exact .tup h (RepAll.dp r e)
  | _, _, _, .lst h r, e => by
    simp only [A.toD, Option.map_eq_some_iff] at e
    obtain ⟨ds, e, rfl⟩ := e
    exact .lst h.sq (RepAll.dp r e)
  | _, _, _, .dct h, e => by simp [A.toD] at e
  | _, _, _, .ref h, e => by simp [A.toD] at e
theorem RepAll.dp : ∀ {xs : List A} {vs : List V} {ds : List PyData}, RepAll K ρ H xs vs → A.toDs xs = some ds → DpAll K H vs ds
  | _, _, _, .nil, e => by simp [A.toDs] at e; subst e; exact .nil
  | _, _, _, .cons h r, e => by
    simp only [A.toDs] at e
    split at e
    · rename_i d ds h1 h2
      cases e
      exact .cons (Rep.dp h h1) (RepAll.dp r h2)
    · cases e
end
theorem Rep.dpM {M : Mem} {x : A} {v : V} {d : PyData} (m : RepM K ρ H M) (r : Rep K ρ H x v) (e : x.toDM M = some d) : Dp K H v d := by
  cases r with
  | ref h =>
    simp only [A.toDM] at e
    split at e
    · rename_i xs h1
      rw [Option.map_eq_some_iff] at e
      obtain ⟨ds, e, rfl⟩ := e
      obtain ⟨vs, hv, rv⟩ := m.cell _ _ _ h1 h
      exact .lst (SqL.of hv) (rv.dp e)
    · cases e
  | non => simp [A.toDM, A.toD] at e; subst e; exact .non
  | bl b => simp [A.toDM, A.toD] at e; subst e; exact .bl b
  | int i => simp [A.toDM, A.toD] at e; subst e; exact .int i
  | str s => simp [A.toDM, A.toD] at e; subst e; exact .str s
  | tup h r => exact Rep.dp (.tup h r) e
  | lst h r => exact Rep.dp (.lst h r) e
  | dct h => simp [A.toDM, A.toD] at e
theorem Rep.asL {M : Mem} {x : A} {v : V} {xs : List A} (m : RepM K ρ H M) (r : Rep K ρ H x v) (e : asL M x = some xs) : ∃ a vs, v = .ref a ∧ SqX K H a vs ∧ RepAll K ρ H xs vs := by
  cases r with
  | lst h r => simp [MP.asL] at e; subst e; exact ⟨_, _, rfl, h.sx, r⟩
  | ref h =>
    simp only [MP.asL] at e
    split at e
    · rename_i ys h1
      cases e
      obtain ⟨vs, hv, rv⟩ := m.cell _ _ _ h1 h
      exact ⟨_, _, rfl, SqX.of hv, rv⟩
    · cases e
  | _ => simp [MP.asL] at e
theorem Rep.asSeq {M : Mem} {x : A} {v : V} {xs : List A} (m : RepM K ρ H M) (r : Rep K ρ H x v) (e : asSeq M x = some xs) : ∃ a vs, v = .ref a ∧ (SqX K H a vs ∨ SqT K H a vs) ∧ RepAll K ρ H xs vs := by
  cases r with
  | tup h r => simp [MP.asSeq] at e; subst e; exact ⟨_, _, rfl, .inr h, r⟩
  | lst h r =>
    obtain ⟨a, vs, h1, h2, h3⟩ := Rep.asL m (.lst h r) e
    exact ⟨a, vs, h1, .inl h2, h3⟩
  | ref h =>
    obtain ⟨a, vs, h1, h2, h3⟩ := Rep.asL m (.ref h) e
    exact ⟨a, vs, h1, .inl h2, h3⟩
  | non => simp [MP.asSeq, MP.asL] at e
  | bl b => simp [MP.asSeq, MP.asL] at e
  | int i => simp [MP.asSeq, MP.asL] at e
  | str s => simp [MP.asSeq, MP.asL] at e
  | dct h => simp [MP.asSeq, MP.asL] at e
end

/-! ### values by values: each rule's wish follows from the evaluator's end -/
section
variable {X : Cx} {mg : Str → Option Value} {ρ : List Addr} {H : Hp} {M : Mem} {Q : VK} {E : Value → Option Addr → Hp → Prop} {a b : A} {x y : V}
/-- a new list -/
theorem fin_lst {K : PySem.W.Frag} {o : Bool} {xs : List A} {vs : List V} (m : RepM K ρ H M) (r : RepAll K ρ H xs vs) (h : Post K mg (Rep K) ρ H (finL o xs M) Q E) :
    vs.length ≤ sizeLine ∧ ∀ p, H p = none → Fz Q (.ref p) (upd H p (.lst vs)) := by
  have hl := r.length
  unfold finL at h
  by_cases hz : xs.length ≤ sizeLine
  · rw [if_pos hz] at h
    refine ⟨by omega, fun p hp => ?_⟩
    cases o with
    | true =>
      rw [if_pos rfl] at h
      exact .inl (h (.ref p) (ρ ++ [p]) _ (Grow.cell hp) (.ref (by rw [← m.len]; simp)) (m.cellNew hp r))
    | false =>
      rw [if_neg (by decide)] at h
      refine .inr ⟨p, vs, upd_same, fun o => ?_⟩
      have g : Grow ρ H ρ (upd (upd H p (.lst vs)) p (.frz o (.lst vs))) := Grow.laid2 hp
      exact h (.ref p) ρ _ g (.lst (.inl ⟨o, upd_same⟩) (r.mono g)) (m.laid2 hp)
  · rw [if_neg hz] at h
    exact False.elim h
theorem post_ok {K : PySem.W.Frag} {α β : Type} {R : List Addr → Hp → α → β → Prop} {c : α} {v : β} {Q : β → Hp → Prop} (m : RepM K ρ H M) (r : R ρ H c v) (h : Post K mg R ρ H (.ok c M) Q E) : Q v H := h v ρ H (Grow.refl _ _) r m
theorem fz_of {v : V} (h : Q v H) : Fz Q v H := .inl h

def rAddL (K : PySem.W.Frag) : R2 := fun x y H Q => ∃ l b xs zs, x = .ref l ∧ y = .ref b ∧ SqX K H l xs ∧ SqX K H b zs ∧ xs.length + zs.length ≤ sizeLine ∧ ∀ p, H p = none → Q (.ref p) (upd H p (.lst (xs ++ zs)))
theorem op_addL : OpR X (binaryOp .Add) (rAddL X.K) := by
  intro pins s σ H x y v u Q I rx ry h
  obtain ⟨l, b, xs, zs, rfl, rfl, hH, hB, hz, q⟩ := h
  cases rx
  cases ry
  obtain ⟨its, n1, r, e1, z1⟩ := MP.Inv.listX I hH
  obtain ⟨its2, n2, r2, e2, z2⟩ := MP.Inv.listX I hB
  have hl1 := r.length
  have hl2 := r2.length
  refine PySem.P.add_list e1 e2 ?_ (by rw [List.size_toArray, List.size_toArray]; omega)
  have ea : its.toArray ++ its2.toArray = (its ++ its2).toArray := by simp
  rw [ea]
  exact ⟨.ref _, _, I.lnew (t' := s.toks) (r.append r2) (by rw [List.length_append]; omega), rfl, q _ I.fresh⟩
def rAddX (K : PySem.W.Frag) : R2 := fun x y H Q => rI0 (fun i j => .int (i + j)) x y H Q ∨ (∃ i j, x = .str i ∧ y = .str j ∧ i.length + j.length ≤ sizeLine ∧ Q (.str (i ++ j)) H) ∨ rCatA K x y H Q ∨ rAddL K x y H Q
theorem op_addX : OpR X (binaryOp .Add) (rAddX X.K) := op_add.or (op_add_str.or (op_catA.or op_addL))
theorem rep_tupCat {K : PySem.W.Frag} {xs ys : List A} {vs ws : List V} {p : Addr} (g : Grow ρ H ρ (upd H p (.tup (vs ++ ws)))) (r1 : RepAll K ρ H xs vs) (r2 : RepAll K ρ H ys ws) : Rep K ρ (upd H p (.tup (vs ++ ws))) (.tup (xs ++ ys)) (.ref p) :=
  .tup (SqT.of upd_same) ((r1.append r2).mono g)
theorem addA_w {K : PySem.W.Frag} {o : Bool} (m : RepM K ρ H M) (ra : Rep K ρ H a x) (rb : Rep K ρ H b y) (h : Post K mg (Rep K) ρ H (addA o a b M) Q E) : rAddX K x y H (Fz Q) := by
  have lists : (match asL M a with | some xs => (match asL M b with | some ys => finL o (xs ++ ys) M | none => .stuck) | none => .stuck) = addA o a b M → rAddX K x y H (Fz Q) := by
    intro e
    rw [← e] at h
    cases e1 : asL M a with
    | none => rw [e1] at h; exact False.elim h
    | some xs =>
      cases e2 : asL M b with
      | none => rw [e1, e2] at h; exact False.elim h
      | some ys =>
        rw [e1, e2] at h
        obtain ⟨l1, vs, rfl, s1, q1⟩ := ra.asL m e1
        obtain ⟨l2, ws, rfl, s2, q2⟩ := rb.asL m e2
        obtain ⟨z, q⟩ := fin_lst m (q1.append q2) h
        rw [List.length_append] at z
        exact .inr (.inr (.inr ⟨l1, l2, vs, ws, rfl, rfl, s1, s2, z, q⟩))
  cases ra with
  | int i =>
    cases rb with
    | int j => exact .inl ⟨i, j, rfl, rfl, fz_of (post_ok m (.int _) h)⟩
    | _ => exact False.elim h
  | str i =>
    cases rb with
    | str j =>
      simp only [addA] at h
      split at h
      · rename_i hz
        exact .inr (.inl ⟨i, j, rfl, rfl, hz, fz_of (post_ok m (.str _) h)⟩)
      · exact False.elim h
    | _ => exact False.elim h
  | @tup l1 xs vs s1 q1 =>
    cases rb with
    | @tup l2 ys ws s2 q2 =>
      simp only [addA] at h
      split at h
      · rename_i hz
        have h1 := q1.length
        have h2 := q2.length
        refine .inr (.inr (.inl ⟨l1, l2, vs, ws, rfl, rfl, s1, s2, by omega, fun e => ?_, fun _ e => ?_, fun _ _ p hp => ?_⟩))
        · subst e
          have e' : xs = [] := by cases q1; rfl
          subst e'
          exact fz_of (post_ok m (.tup s2 q2) h)
        · subst e
          have e' : ys = [] := by cases q2; rfl
          subst e'
          rw [List.append_nil] at h
          exact fz_of (post_ok m (.tup s1 q1) h)
        · have g : Grow ρ H ρ (upd H p (.tup (vs ++ ws))) := Grow.laid hp
          exact fz_of (h (.ref p) ρ _ g (rep_tupCat g q1 q2) (m.laid hp))
      · exact False.elim h
    | _ => exact False.elim h
  | non => exact False.elim h
  | bl b => exact False.elim h
  | lst s1 q1 => exact lists rfl
  | ref e => exact lists rfl
  | dct e => exact False.elim h
theorem okMul_C {i j : Int} (h : okMul i j = true) : CMul i j := by
  unfold okMul at h
  simp only [Bool.or_eq_true, Bool.and_eq_true, decide_eq_true_eq] at h
  exact h
theorem cmp_sc {K : PySem.W.Frag} (ra : Rep K ρ H a x) (rb : Rep K ρ H b y) (h : scalA a b = true) : scal x y = true ∧ decide (x = y) = scalEq a b := by
  cases ra <;> cases rb <;> first | exact (Bool.noConfusion h) | exact ⟨rfl, by simp [scalEq]⟩
theorem eqA_w {K : PySem.W.Frag} {k : Bool} (m : RepM K ρ H M) (ra : Rep K ρ H a x) (rb : Rep K ρ H b y) (h : eqA a b M = some k) : (scal x y = true ∧ decide (x = y) = k) ∨ ∃ d e, Dp K H x d ∧ Dp K H y e ∧ SeqAt.shaped d = true ∧ SeqAt.shaped e = true ∧ PyData.eqv d e = k := by
  unfold eqA at h
  split at h
  · rename_i hs
    obtain ⟨h1, h2⟩ := cmp_sc ra rb hs
    cases h
    exact .inl ⟨h1, h2⟩
  · split at h
    · rename_i d e1
      split at h
      · rename_i e e2
        split at h
        · rename_i hs
          rw [Bool.and_eq_true] at hs
          cases h
          exact .inr ⟨d, e, ra.dpM m e1, rb.dpM m e2, hs.1, hs.2, rfl⟩
        · cases h
      · cases h
    · cases h
end
end MP

/-! MP, part D: the other operators by values -/
namespace MP
open PySem PySem.Spec PyProof.Rows L2
section
variable {X : Cx} {mg : Str → Option Value} {ρ : List Addr} {H : Hp} {M : Mem} {Q : VK} {E : Value → Option Addr → Hp → Prop} {a b : A} {x y : V} {K : PySem.W.Frag}

theorem post_outB {o : Option Bool} (m : RepM K ρ H M) (h : Post K mg (Rep K) ρ H (outB o M) Q E) : ∃ k, o = some k ∧ Q (.bl k) H := by
  cases o with
  | none => exact False.elim h
  | some k => exact ⟨k, rfl, post_ok m (.bl k) h⟩
theorem post_outV {o : Option A} (m : RepM K ρ H M) (h : Post K mg (Rep K) ρ H (outV o M) Q E) : ∃ k, o = some k ∧ ∀ v, Rep K ρ H k v → Q v H := by
  cases o with
  | none => exact False.elim h
  | some k => exact ⟨k, rfl, fun v r => post_ok m r h⟩

/-! ### - * // % ** -/
/-- the operator's reading, whatever it is -/
def rBinA (op : Operator) (K : PySem.W.Frag) : R2 := fun x y H Q => match op with
  | .Add => rAddX K x y H Q
  | .Sub => rI0 (fun i j => .int (i - j)) x y H Q
  | .Mult => rI CMul (fun i j => .int (i * j)) x y H Q
  | .FloorDiv => rI CDiv (fun i j => .int (i / j)) x y H Q
  | .Mod => rI (fun _ j => 0 < j) (fun i j => .int (i % j)) x y H Q
  | .Pow => rI CPow (fun i j => .int (i ^ j.toNat)) x y H Q
  | _ => False
theorem op_binA (op : Operator) : OpR X (binaryOp op) (rBinA op X.K) := by
  cases op with
  | Add => exact op_addX
  | Sub => exact op_sub
  | Mult => exact op_mul
  | FloorDiv => exact op_fdiv
  | Mod => exact op_mod
  | Pow => exact op_pow
  | _ => exact fun _ _ _ _ _ _ _ _ _ _ _ _ h => False.elim h
theorem binN_w {op : Operator} (m : RepM K ρ H M) (ra : Rep K ρ H a x) (rb : Rep K ρ H b y) (h : Post K mg (Rep K) ρ H (binN op a b M) Q E) : rBinA op K x y H (Fz Q) := by
  cases ra with
  | int i =>
    cases rb with
    | int j =>
      have h' : Post K mg (Rep K) ρ H (binI op i j M) Q E := h
      clear h
      cases op with
      | Sub => exact ⟨i, j, rfl, rfl, fz_of (post_ok m (.int _) h')⟩
      | Mult =>
        simp only [binI] at h'
        split at h'
        · rename_i hc
          exact ⟨i, j, rfl, rfl, okMul_C hc, fz_of (post_ok m (.int _) h')⟩
        · exact False.elim h'
      | FloorDiv =>
        simp only [binI] at h'
        split at h'
        · rename_i hc
          exact ⟨i, j, rfl, rfl, hc, fz_of (post_ok m (.int _) h')⟩
        · exact False.elim h'
      | Mod =>
        simp only [binI] at h'
        split at h'
        · rename_i hc
          exact ⟨i, j, rfl, rfl, hc, fz_of (post_ok m (.int _) h')⟩
        · exact False.elim h'
      | Pow =>
        simp only [binI] at h'
        split at h'
        · rename_i hc
          exact ⟨i, j, rfl, rfl, hc, fz_of (post_ok m (.int _) h')⟩
        · exact False.elim h'
      | _ => exact False.elim h'
    | _ => exact False.elim h
  | _ => exact False.elim h
theorem binA_w {o : Bool} {op : Operator} (m : RepM K ρ H M) (ra : Rep K ρ H a x) (rb : Rep K ρ H b y) (h : Post K mg (Rep K) ρ H (binA o op a b M) Q E) : rBinA op K x y H (Fz Q) := by
  cases op with
  | Add => exact addA_w m ra rb h
  | _ => exact binN_w m ra rb h

/-! ### comparisons -/
def rInX (K : PySem.W.Frag) : R2 := fun x y H Q => (∃ (c : Nat) (z : Str), x = .str ⟨#[c]⟩ ∧ y = .str z ∧ Q (.bl (decide (c ∈ z.cps.toList))) H) ∨ rIn K false x y H Q ∨ rInD K x y H Q
def rNotInX (K : PySem.W.Frag) : R2 := fun x y H Q => (∃ (c : Nat) (z : Str), x = .str ⟨#[c]⟩ ∧ y = .str z ∧ Q (.bl (!decide (c ∈ z.cps.toList))) H) ∨ rIn K true x y H Q ∨ rNotInD K x y H Q
def rCmpA (op : CmpOp) (K : PySem.W.Frag) : R2 := fun x y H Q => match op with
  | .Eq => rEq x y H Q ∨ rEqD K x y H Q
  | .NotEq => rNe x y H Q ∨ rNeD K x y H Q
  | .Is => y = .non ∧ Q (.bl (decide (x = .non))) H
  | .IsNot => y = .non ∧ Q (.bl (!decide (x = .non))) H
  | .In => rInX K x y H Q
  | .NotIn => rNotInX K x y H Q
  | .Lt => rI0 (fun i j => .bl (decide (i < j))) x y H Q
  | .LtE => rI0 (fun i j => .bl (decide (i ≤ j))) x y H Q
  | .Gt => rI0 (fun i j => .bl (decide (j < i))) x y H Q
  | .GtE => rI0 (fun i j => .bl (decide (j ≤ i))) x y H Q
theorem op_cmpA (hu : X.A.units + 65 < cLine) (op : CmpOp) : OpR X (compareOp op) (rCmpA op X.K) := by
  cases op with
  | Eq => exact op_eq.or (op_eqD (by omega))
  | NotEq => exact op_ne.or (op_neD (by omega))
  | Is => exact op_isN
  | IsNot => exact op_notN
  | In => exact op_in_sign.or (op_in_seq.or (op_inD hu))
  | NotIn => exact op_notIn_sign.or (op_notIn_seq.or (op_notInD hu))
  | Lt => exact op_lt
  | LtE => exact op_le
  | Gt => exact op_gt
  | GtE => exact op_ge
theorem rep_flat (r : Rep K ρ H a x) (h : flatA a = true) : flatV x = true := by cases r <;> first | rfl | exact Bool.noConfusion h
theorem rep_eqF {c : A} {z : V} (r : Rep K ρ H a x) (q : Rep K ρ H c z) (h1 : flatA a = true) (h2 : flatA c = true) : eqV z x = eqF c a := by
  cases r <;> cases q <;> first | rfl | exact Bool.noConfusion h1 | exact Bool.noConfusion h2
theorem reps_flat : ∀ {xs : List A} {vs : List V}, RepAll K ρ H xs vs → xs.all flatA = true → vs.all flatV = true
  | _, _, .nil, _ => rfl
  | _, _, .cons h r, e => by
    rw [List.all_cons, Bool.and_eq_true] at e
    rw [List.all_cons, rep_flat h e.1, reps_flat r e.2]; rfl
theorem reps_in (ra : Rep K ρ H a x) (h1 : flatA a = true) : ∀ {xs : List A} {vs : List V}, RepAll K ρ H xs vs → xs.all flatA = true → inV x vs = xs.any fun y => eqF y a
  | _, _, .nil, _ => rfl
  | _, _, .cons h r, e => by
    rw [List.all_cons, Bool.and_eq_true] at e
    show (eqV _ x || inV x _) = _
    rw [List.any_cons, rep_eqF ra h h1 e.1, reps_in ra h1 r e.2]
theorem sign_of {z : Str} (h : z.cps.size = 1) : z = ⟨#[z.cps.getD 0 0]⟩ := by
  obtain ⟨⟨l⟩⟩ := z
  match l, h with
  | [c], _ => rfl
theorem rep_seq_notstr {ys : List A} (e : asSeq M b = some ys) : ∀ z, b ≠ .str z := by
  rintro z rfl
  simp [MP.asSeq, MP.asL] at e
theorem inSeq_w {k : Bool} (m : RepM K ρ H M) (ra : Rep K ρ H a x) (rb : Rep K ρ H b y) (h : inSeq a b M = some k) :
    (∃ p xs, y = .ref p ∧ (SqL K H p xs ∨ SqT K H p xs) ∧ flatV x = true ∧ xs.all flatV = true ∧ inV x xs = k) ∨
      ∃ d ds, Dp K H x d ∧ Dp K H y (.list ds) ∧ SeqAt.shaped d = true ∧ SeqAt.shaped (.list ds) = true ∧ (ds.any fun z => PyData.eqv z d) = k := by
  unfold inSeq at h
  split at h
  · rename_i ys e1
    obtain ⟨p, vs, rfl, hs, rr⟩ := rb.asSeq m e1
    split at h
    · rename_i hf
      rw [Bool.and_eq_true] at hf
      cases h
      exact .inl ⟨p, vs, rfl, hs.imp SqX.sq id, rep_flat ra hf.1, reps_flat rr hf.2, reps_in ra hf.1 rr hf.2⟩
    · split at h
      · rename_i d e2
        split at h
        · rename_i ds e3
          split at h
          · rename_i hs2
            rw [Bool.and_eq_true] at hs2
            cases h
            exact .inr ⟨d, ds, ra.dpM m e2, rb.dpM m e3, hs2.1, hs2.2, rfl⟩
          · cases h
        · cases h
      · cases h
  · cases h
theorem inA_w {k : Bool} (m : RepM K ρ H M) (ra : Rep K ρ H a x) (rb : Rep K ρ H b y) (h : inA a b M = some k) :
    (∃ (c : Nat) (z : Str), x = .str ⟨#[c]⟩ ∧ y = .str z ∧ decide (c ∈ z.cps.toList) = k) ∨ (∃ p xs, y = .ref p ∧ (SqL K H p xs ∨ SqT K H p xs) ∧ flatV x = true ∧ xs.all flatV = true ∧ inV x xs = k) ∨
      ∃ d ds, Dp K H x d ∧ Dp K H y (.list ds) ∧ SeqAt.shaped d = true ∧ SeqAt.shaped (.list ds) = true ∧ (ds.any fun z => PyData.eqv z d) = k := by
  cases rb with
  | str z =>
    have h' : inStr a z = some k := h
    cases ra with
    | str x =>
      simp only [inStr] at h'
      split at h'
      · rename_i hz
        cases h'
        exact .inl ⟨x.cps.getD 0 0, z, congrArg V.str (sign_of hz), rfl, rfl⟩
      · cases h'
    | _ => cases h'
  | non => exact .inr (inSeq_w m ra .non h)
  | bl _ => exact .inr (inSeq_w m ra (.bl _) h)
  | int _ => exact .inr (inSeq_w m ra (.int _) h)
  | tup s r => exact .inr (inSeq_w m ra (.tup s r) h)
  | lst s r => exact .inr (inSeq_w m ra (.lst s r) h)
  | ref e => exact .inr (inSeq_w m ra (.ref e) h)
  | dct e => exact .inr (inSeq_w m ra (.dct e) h)
theorem isNon_w (ra : Rep K ρ H a x) : decide (x = .non) = isNon a := by cases ra <;> rfl
theorem cmpB_w {op : CmpOp} {k : Bool} (m : RepM K ρ H M) (ra : Rep K ρ H a x) (rb : Rep K ρ H b y) (e : cmpB op a b M = some k) (q : Q (.bl k) H) : rCmpA op K x y H Q := by
  have int2 : ∀ (f : Int → Int → Bool), (∀ i j, a = .int i → b = .int j → f i j = k) → (∃ i j, a = .int i ∧ b = .int j) → rI0 (fun i j => .bl (f i j)) x y H Q := by
    rintro f hf ⟨i, j, rfl, rfl⟩
    cases ra
    cases rb
    exact ⟨i, j, rfl, rfl, by show Q (.bl (f i j)) H; rw [hf i j rfl rfl]; exact q⟩
  have both : ∀ {op : CmpOp}, ltA op a b = some k → ∃ i j, a = .int i ∧ b = .int j ∧ ltI op i j = some k := by
    intro op h
    cases ra with
    | int i =>
      cases rb with
      | int j => exact ⟨i, j, rfl, rfl, h⟩
      | _ => cases h
    | _ => cases h
  cases op with
  | Eq =>
    rcases eqA_w m ra rb e with ⟨h1, h2⟩ | ⟨d, e', h1, h2, h3, h4, h5⟩
    · exact .inl ⟨h1, by rw [h2]; exact q⟩
    · exact .inr ⟨d, e', h1, h2, h3, h4, by rw [h5]; exact q⟩
  | NotEq =>
    simp only [cmpB, Option.map_eq_some_iff] at e
    obtain ⟨k', e, rfl⟩ := e
    rcases eqA_w m ra rb e with ⟨h1, h2⟩ | ⟨d, e', h1, h2, h3, h4, h5⟩
    · exact .inl ⟨h1, by rw [h2]; exact q⟩
    · exact .inr ⟨d, e', h1, h2, h3, h4, by rw [h5]; exact q⟩
  | Is =>
    have e' : isNone? a b = some k := e
    unfold isNone? at e'
    split at e'
    · rename_i hb
      cases e'
      cases rb <;> first | exact Bool.noConfusion hb | exact ⟨rfl, by rw [isNon_w ra]; exact q⟩
    · cases e'
  | IsNot =>
    simp only [cmpB, Option.map_eq_some_iff] at e
    obtain ⟨k', e, rfl⟩ := e
    unfold isNone? at e
    split at e
    · rename_i hb
      cases e
      cases rb <;> first | exact Bool.noConfusion hb | exact ⟨rfl, by rw [isNon_w ra]; exact q⟩
    · cases e
  | In =>
    rcases inA_w m ra rb e with ⟨c, z, h1, h2, h3⟩ | ⟨p, xs, h1, h2, h3, h4, h5⟩ | ⟨d, ds, h1, h2, h3, h4, h5⟩
    · exact .inl ⟨c, z, h1, h2, by rw [h3]; exact q⟩
    · exact .inr (.inl ⟨p, xs, h1, h2, h3, h4, by show Q (.bl (inV x xs)) H; rw [h5]; exact q⟩)
    · exact .inr (.inr ⟨d, ds, h1, h2, h3, h4, by rw [h5]; exact q⟩)
  | NotIn =>
    simp only [cmpB, Option.map_eq_some_iff] at e
    obtain ⟨k', e, rfl⟩ := e
    rcases inA_w m ra rb e with ⟨c, z, h1, h2, h3⟩ | ⟨p, xs, h1, h2, h3, h4, h5⟩ | ⟨d, ds, h1, h2, h3, h4, h5⟩
    · exact .inl ⟨c, z, h1, h2, by rw [h3]; exact q⟩
    · exact .inr (.inl ⟨p, xs, h1, h2, h3, h4, by show Q (.bl (!inV x xs)) H; rw [h5]; exact q⟩)
    · exact .inr (.inr ⟨d, ds, h1, h2, h3, h4, by rw [h5]; exact q⟩)
  | Lt =>
    obtain ⟨i, j, rfl, rfl, h⟩ := both (op := .Lt) e
    exact int2 _ (fun i' j' h1 h2 => by cases h1; cases h2; exact Option.some.inj h) ⟨i, j, rfl, rfl⟩
  | LtE =>
    obtain ⟨i, j, rfl, rfl, h⟩ := both (op := .LtE) e
    exact int2 _ (fun i' j' h1 h2 => by cases h1; cases h2; exact Option.some.inj h) ⟨i, j, rfl, rfl⟩
  | Gt =>
    obtain ⟨i, j, rfl, rfl, h⟩ := both (op := .Gt) e
    exact int2 _ (fun i' j' h1 h2 => by cases h1; cases h2; exact Option.some.inj h) ⟨i, j, rfl, rfl⟩
  | GtE =>
    obtain ⟨i, j, rfl, rfl, h⟩ := both (op := .GtE) e
    exact int2 _ (fun i' j' h1 h2 => by cases h1; cases h2; exact Option.some.inj h) ⟨i, j, rfl, rfl⟩
end
end MP

/-! MP, part E: truth, isinstance, subscripts, built-in functions, methods, what is walked -/
namespace MP
open PySem PySem.Spec PyProof.Rows L2
section
variable {X : Cx} {mg : Str → Option Value} {ρ : List Addr} {H : Hp} {M : Mem} {Q : VK} {E : Value → Option Addr → Hp → Prop} {a b : A} {x y : V} {K : PySem.W.Frag}

/-! ### truth -/
theorem truA_w {k : Bool} (m : RepM K ρ H M) (ra : Rep K ρ H a x) (h : truA a M = some k) : TruV K x H k := by
  have emp : ∀ {xs : List A} {vs : List V}, RepAll K ρ H xs vs → (!xs.isEmpty) = !vs.isEmpty := fun r => by cases r <;> rfl
  cases ra with
  | non => cases h; rfl
  | bl b => cases h; rfl
  | int i => cases h; rfl
  | str s =>
    simp only [truA] at h
    split at h
    · rename_i hz
      cases h
      exact ⟨hz, rfl⟩
    · cases h
  | tup s r => cases h; exact .inr (.inl ⟨_, s, emp r⟩)
  | lst s r => cases h; exact .inl ⟨_, s.sq, emp r⟩
  | dct e => simp [truA, MP.asL] at h
  | ref e =>
    simp only [truA, Option.map_eq_some_iff] at h
    obtain ⟨xs, h, rfl⟩ := h
    obtain ⟨p, vs, e', s, r⟩ := Rep.asL m (.ref e) h
    cases e'
    exact .inl ⟨_, s.sq, emp r⟩

/-! ### isinstance -/
theorem SqT.ty {a : Addr} {xs : List V} (h : SqT K H a xs) : TyX K H (.ref a) (.type "tuple") := by
  rcases h with (h | ⟨o, h⟩) | ⟨o, its, n, h, c, _⟩
  · exact .base (.tup h)
  · exact .fTuple h
  · exact .kTuple h c
theorem FzL.ty {a : Addr} {xs : List V} (h : FzL K H a xs) : TyX K H (.ref a) (.type "list") := by
  rcases h with ⟨o, h⟩ | ⟨its, n, h, _⟩
  · exact .base (.frz h)
  · exact .kList h rfl
theorem tyA_w {t : Ty} (m : RepM K ρ H M) (ra : Rep K ρ H a x) (h : tyA a M = some t) : TyX K H x (.type t.nm) := by
  cases ra with
  | non => cases h; exact .base .non
  | bl b => cases h; exact .base (.bl b)
  | int i => cases h; exact .base (.int i)
  | str s => cases h; exact .base (.str s)
  | tup s r => cases h; exact SqT.ty s
  | lst s r => cases h; exact s.ty
  | dct e => cases h; exact .fDict e
  | ref e =>
    simp only [tyA] at h
    split at h
    · rename_i xs h1
      cases h
      obtain ⟨vs, hv, rv⟩ := m.cell _ _ _ h1 e
      exact .base (.lst hv)
    · cases h
theorem kit_isi (t c : Ty) (hc : c ≠ .non) : kitB t.nm c.nm = some (isiT t c) := by
  cases c with
  | non => exact absurd rfl hc
  | _ => cases t <;> decide +kernel
theorem isi_w {c : Ty} (hc : c ≠ .non) (m : RepM K ρ H M) (ra : Rep K ρ H a x) (h : Post K mg (Rep K) ρ H (outB (isiA a c M) M) Q E) : rIsi K [x, .ty c.nm] H Q := by
  obtain ⟨k, e, q⟩ := post_outB m h
  unfold isiA at e
  rw [Option.map_eq_some_iff] at e
  obtain ⟨t, e, rfl⟩ := e
  exact ⟨x, .ty c.nm, _, _, _, rfl, .ty _, tyA_w m ra e, kit_ty (kit_isi t c hc), q⟩
theorem boot_ty (c : Ty) (hc : c ≠ .non) : bootBuiltins (Str.ofString c.nm) = some (.type c.nm) := by
  cases c with
  | non => exact absurd rfl hc
  | _ => decide +kernel

/-! ### subscripts -/
theorem atI_rep {xs : List A} {vs : List V} {k : Int} {c : A} (r : RepAll K ρ H xs vs) (h : atI xs k = some c) : ∃ v, atI vs k = some v ∧ Rep K ρ H c v := by
  unfold atI at h ⊢
  rw [← r.length]
  rw [Option.bind_eq_some_iff] at h
  obtain ⟨j, h1, h2⟩ := h
  obtain ⟨v, h3, h4⟩ := r.get h2
  exact ⟨v, by rw [h1]; exact h3, h4⟩
theorem idxA_w (m : RepM K ρ H M) (ra : Rep K ρ H a x) (rb : Rep K ρ H b y) (h : Post K mg (Rep K) ρ H (idxA a b M) Q E) : rIx K x y H Q := by
  cases rb with
  | int k =>
    have seq : ∀ {a : A} {x : V}, Rep K ρ H a x → Post K mg (Rep K) ρ H (match asSeq M a with | some xs => (match atI xs k with | some x => Out.ok x M | none => .stuck) | none => .stuck) Q E → rIx K x (.int k) H Q := by
      intro a x ra h
      split at h
      · rename_i xs e1
        split at h
        · rename_i c e2
          obtain ⟨p, vs, rfl, s, r⟩ := ra.asSeq m e1
          obtain ⟨v, h1, h2⟩ := atI_rep r e2
          have q := post_ok m h2 h
          rcases s with s | s
          · exact .inl ⟨p, vs, k, v, rfl, rfl, s.sq, h1, q⟩
          · exact .inr (.inl ⟨p, vs, k, v, rfl, rfl, s, h1, q⟩)
        · exact False.elim h
      · exact False.elim h
    cases ra with
    | str z =>
      simp only [idxA] at h
      split at h
      · rename_i hz
        split at h
        · rename_i c hc
          exact .inr (.inr ⟨z, k, c, rfl, rfl, hz, hc, post_ok m (.str _) h⟩)
        · exact False.elim h
      · exact False.elim h
    | non => exact seq .non h
    | bl _ => exact seq (.bl _) h
    | int _ => exact seq (.int _) h
    | tup s r => exact seq (.tup s r) h
    | lst s r => exact seq (.lst s r) h
    | ref e => exact seq (.ref e) h
    | dct e => exact seq (.dct e) h
  | _ => exact False.elim h
def rSlX (K : PySem.W.Frag) : V → Option Int → Option Int → Hp → VK → Prop := fun x lo hi H Q => rSlA K x lo hi H Q ∨ rSlL K x lo hi H Q
theorem sl_X : SlR X (rSlX X.K) := sl_tupA.or sl_list
theorem cut_rep {xs : List A} {vs : List V} (lo hi : Option Int) (r : RepAll K ρ H xs vs) : RepAll K ρ H (cutA xs lo hi) (cutV vs lo hi) := by
  unfold cutA cutV
  rw [← r.length]
  exact (r.drop _).take _
theorem cut_whole {xs : List A} {lo hi : Option Int} (h : HT.sIx xs.length 0 lo = 0 ∧ HT.sIx xs.length xs.length hi = xs.length) : cutA xs lo hi = xs := by
  unfold cutA
  rw [h.1, h.2]
  simp
theorem sliceA_w {o : Bool} {lo hi : Option Int} (m : RepM K ρ H M) (ra : Rep K ρ H a x) (h : Post K mg (Rep K) ρ H (sliceA o a lo hi M) Q E) : rSlX K x lo hi H (Fz Q) := by
  have lists : ∀ {a : A} {x : V}, Rep K ρ H a x → Post K mg (Rep K) ρ H (match asL M a with | some xs => finL o (cutA xs lo hi) M | none => .stuck) Q E → rSlX K x lo hi H (Fz Q) := by
    intro a x ra h
    split at h
    · rename_i xs e1
      obtain ⟨p, vs, rfl, s, r⟩ := ra.asL m e1
      obtain ⟨_, q⟩ := fin_lst m (cut_rep lo hi r) h
      exact .inr ⟨p, vs, rfl, s.sq, q⟩
    · exact False.elim h
  cases ra with
  | @tup p xs vs s r =>
    have e := r.length
    refine .inl ⟨p, vs, rfl, s, fun hw => ?_, fun hw q hq => ?_⟩
    · have h' : Post K mg (Rep K) ρ H (.ok (.tup (cutA xs lo hi)) M) Q E := h
      rw [cut_whole (by rw [e]; exact hw)] at h'
      exact fz_of (post_ok m (.tup s r) h')
    · have g : Grow ρ H ρ (upd H q (.tup (cutV vs lo hi))) := Grow.laid hq
      exact fz_of (h (.ref q) ρ _ g (.tup (SqT.of upd_same) ((cut_rep lo hi r).mono g)) (m.laid hq))
  | non => exact lists .non h
  | bl _ => exact lists (.bl _) h
  | int _ => exact lists (.int _) h
  | str _ => exact lists (.str _) h
  | lst s r => exact lists (.lst s r) h
  | ref e => exact lists (.ref e) h
  | dct e => exact lists (.dct e) h

/-! ### built-in functions -/
theorem lenA_w {n : Nat} (m : RepM K ρ H M) (ra : Rep K ρ H a x) (h : lenA a M = some n) : LenV K x H n := by
  have seq : ∀ {a : A} {x : V}, Rep K ρ H a x → (asSeq M a).map List.length = some n → LenV K x H n := by
    intro a x ra h
    rw [Option.map_eq_some_iff] at h
    obtain ⟨xs, h', rfl⟩ := h
    obtain ⟨p, vs, rfl, s, r⟩ := ra.asSeq m h'
    rcases s with s | s
    · exact .inl ⟨vs, s.sq, r.length⟩
    · exact .inr ⟨vs, s, r.length⟩
  cases ra with
  | str z =>
    simp only [lenA] at h
    split at h
    · rename_i hz
      cases h
      exact ⟨hz, rfl⟩
    · cases h
  | non => exact seq .non h
  | bl _ => exact seq (.bl _) h
  | int _ => exact seq (.int _) h
  | tup s r => exact seq (.tup s r) h
  | lst s r => exact seq (.lst s r) h
  | ref e => exact seq (.ref e) h
  | dct e => exact seq (.dct e) h
theorem allBl_rep : ∀ {xs : List A} {vs : List V} {bs : List Bool}, RepAll K ρ H xs vs → allBl xs = some bs → vs = bs.map V.bl
  | _, _, _, .nil, e => by cases e; rfl
  | _, _, _, .cons h r, e => by
    cases h with
    | bl b =>
      simp only [allBl, Option.map_eq_some_iff] at e
      obtain ⟨bs, e, rfl⟩ := e
      rw [allBl_rep r e]; rfl
    | _ => cases e
mutual
/-- plain data with empty dicts; l: a list may be within -/
inductive Rp (K : PySem.W.Frag) (H : Hp) (l : Bool) : V → PyData → Prop
  | non : Rp K H l .non .none
  | bl (b : Bool) : Rp K H l (.bl b) (.bool b)
  | int (i : Int) : Rp K H l (.int i) (.int i)
  | str (x : Str) : Rp K H l (.str x) (.str x)
  | lst {a : Addr} {xs : List V} {ds : List PyData} : l = true → SqX K H a xs → RpAll K H l xs ds → Rp K H l (.ref a) (.list ds)
  | tup {a : Addr} {xs : List V} {ds : List PyData} : SqT K H a xs → RpAll K H l xs ds → Rp K H l (.ref a) (.tuple ds)
  | dct {a : Addr} {o : Obj} : H a = some (.frz o (.dK [])) → Rp K H l (.ref a) (.dict [])
inductive RpAll (K : PySem.W.Frag) (H : Hp) (l : Bool) : List V → List PyData → Prop
  | nil : RpAll K H l [] []
  | cons {v : V} {vs : List V} {d : PyData} {ds : List PyData} : Rp K H l v d → RpAll K H l vs ds → RpAll K H l (v :: vs) (d :: ds)
end
mutual
theorem Rp.reads {l : Bool} {pins : List (Addr × Obj)} {σ : L2.St} {s : Shared} (I : Inv X pins σ H s) : ∀ (d : PyData) (v : V) (u : Value), Rp X.K H l v d → RelV v u → ∃ as, Reads s.heap u d as ∧ (l = false → sysModules ∉ as)
  | .none, _, _, h, r => by
    cases h
    cases r
    exact ⟨_, Reads.none, fun _ z => by cases z⟩
  | .bool b, _, _, h, r => by
    cases h
    cases r
    exact ⟨_, Reads.bool b, fun _ z => by cases z⟩
  | .int i, _, _, h, r => by
    cases h
    obtain ⟨t, rfl⟩ := r
    exact ⟨_, Reads.int i t, fun _ z => by cases z⟩
  | .str x, _, _, h, r => by
    cases h
    obtain ⟨t, rfl⟩ := r
    exact ⟨_, Reads.str x t, fun _ z => by cases z⟩
  | .list ds, _, _, h, r => by
    cases h with
    | lst hl hs ha =>
      cases r
      obtain ⟨its, n, rv, ho, _⟩ := MP.Inv.listX I hs
      obtain ⟨as, hr, _⟩ := Rp.readsAll I ds _ its ha rv
      exact ⟨_, Reads.list ho rfl rfl hr, fun z => by rw [hl] at z; cases z⟩
  | .tuple ds, _, _, h, r => by
    cases h with
    | tup hs ha =>
      cases r
      obtain ⟨its, rv, ⟨o, ho, hc, n, hd⟩, _⟩ := I.tuple hs
      obtain ⟨as, hr, hn⟩ := Rp.readsAll I ds _ its ha rv
      exact ⟨_, Reads.tuple ho hc hd hr, hn⟩
  | .dict kvs, _, _, h, r => by
    cases h with
    | dct e =>
      cases r
      obtain ⟨e1, hz, hsys, vs, kv, o, es, ep, e2, hx, hd, hk, hp, hnd⟩ := I.hok _ _ e
      cases kv
      have he : es.toList = [] := by
        revert hp
        generalize es.toList = l
        intro hp
        cases hp
        rfl
      refine ⟨_, Reads.dict (as := []) (bs := []) e2 hx.1 hd (by rw [he]; exact .nil) (by rw [he]; exact .nil), fun _ z => ?_⟩
      simp at z
      rw [← z] at hsys
      exact Bool.noConfusion hsys
theorem Rp.readsAll {l : Bool} {pins : List (Addr × Obj)} {σ : L2.St} {s : Shared} (I : Inv X pins σ H s) : ∀ (ds : List PyData) (vs : List V) (us : List Value), RpAll X.K H l vs ds → Vals vs us → ∃ as, ReadsAll s.heap us ds as ∧ (l = false → sysModules ∉ as)
  | [], _, _, h, r => by
    cases h
    cases r
    exact ⟨_, ReadsAll.nil, fun _ z => by cases z⟩
  | d :: ds, _, _, h, r => by
    cases h with
    | cons h1 h2 =>
      cases r with
      | cons r1 r2 =>
        obtain ⟨as, q1, n1⟩ := Rp.reads I d _ _ h1 r1
        obtain ⟨bs, q2, n2⟩ := Rp.readsAll I ds _ _ h2 r2
        exact ⟨_, ReadsAll.cons q1 q2, fun z hm => (List.mem_append.mp hm).elim (n1 z) (n2 z)⟩
end
mutual
theorem Rep.rp {l : Bool} : ∀ {x : A} {v : V} {d : PyData}, Rep K ρ H x v → A.toR x = some d → (x.hasL = true → l = true) → Rp K H l v d
  | _, _, _, .non, e, _ => by simp [A.toR] at e; subst e; exact .non
  | _, _, _, .bl b, e, _ => by simp [A.toR] at e; subst e; exact .bl b
  | _, _, _, .int i, e, _ => by simp [A.toR] at e; subst e; exact .int i
  | _, _, _, .str s, e, _ => by simp [A.toR] at e; subst e; exact .str s
  | _, _, _, .tup h r, e, z => by
    simp only [A.toR, Option.map_eq_some_iff] at e
    obtain ⟨ds, e, rfl⟩ := e
    exact .tup h (RepAll.rp r e z)
  | _, _, _, .lst h r, e, z => by
    simp only [A.toR, Option.map_eq_some_iff] at e
    obtain ⟨ds, e, rfl⟩ := e
    exact .lst (z rfl) h.sx (RepAll.rp r e fun _ => z rfl)
  | _, _, _, .dct h, e, _ => by simp [A.toR] at e; subst e; exact .dct h
  | _, _, _, .ref h, e, _ => by simp [A.toR] at e
theorem RepAll.rp {l : Bool} : ∀ {xs : List A} {vs : List V} {ds : List PyData}, RepAll K ρ H xs vs → A.toRs xs = some ds → (A.hasLs xs = true → l = true) → RpAll K H l vs ds
  | _, _, _, .nil, e, _ => by simp [A.toRs] at e; subst e; exact .nil
  | _, _, _, .cons h r, e, z => by
    simp only [A.toRs] at e
    split at e
    · rename_i d ds h1 h2
      cases e
      exact .cons (Rep.rp h h1 fun q => z (by simp [A.hasLs, q])) (RepAll.rp r h2 fun q => z (by simp [A.hasLs, q]))
    · cases e
end
theorem Rep.rpM {x : A} {v : V} {d : PyData} (m : RepM K ρ H M) (r : Rep K ρ H x v) (e : x.toRM M = some d) : Rp K H x.hasL v d := by
  have tree : ∀ {x : A} {v : V}, Rep K ρ H x v → x.toR = some d → Rp K H x.hasL v d := fun r e => r.rp e fun z => z
  cases r with
  | ref h =>
    simp only [A.toRM] at e
    split at e
    · rename_i xs h1
      rw [Option.map_eq_some_iff] at e
      obtain ⟨ds, e, rfl⟩ := e
      obtain ⟨vs, hv, rv⟩ := m.cell _ _ _ h1 h
      exact .lst rfl (SqX.of hv) (rv.rp e fun _ => rfl)
    · cases e
  | non => exact tree .non e
  | bl b => exact tree (.bl b) e
  | int i => exact tree (.int i) e
  | str s => exact tree (.str s) e
  | tup h r => exact tree (.tup h r) e
  | lst h r => exact tree (.lst h r) e
  | dct h => exact tree (.dct h) e
/-- repr -/
theorem call_reprD (hg : X.A.guards = some []) (hu : X.A.units + 64 < cLine) : CallR X (.builtin "repr") (fun xs H Q => ∃ x d l, xs = [x] ∧ Rp X.K H l x d ∧ d.showable = true ∧ (d.hasDict = true → l = false) ∧ d.shown.length ≤ sizeLine ∧ d.depth ≤ 60 ∧ Q (.str d.shown) H) := by
  intro pins s σ H xs us Q I r h
  obtain ⟨x, d, l, rfl, hd, h1, h2, h3, h4, q⟩ := h
  obtain ⟨u, rfl, rx⟩ := vals1 r
  have fin : ∀ tk tk', EP X pins σ Q (.str d.shown tk) { s with toks := tk' } := fun tk tk' => ⟨.str d.shown, H, I.tok _, ⟨_, rfl⟩, q⟩
  obtain ⟨as, rd, hsm⟩ := Rp.reads I d x u hd rx
  cases hd with
  | non => cases rx; exact P.repr_of_none (fin _ _)
  | bl b =>
    cases rx
    refine P.repr_of_bool ?_
    have e : (PyData.bool b).shown = (if b = true then Str.ofString "True" else Str.ofString "False") := by cases b <;> simp [PyData.shown]
    rw [← e]
    exact fin _ _
  | int i =>
    obtain ⟨t, rfl⟩ := rx
    have e : (PyData.int i).shown = toString i := by simp only [PyData.shown]
    rw [e] at fin
    exact P.repr_of_int (by simpa [PyData.showable] using h1) (fin _ _)
  | str z =>
    obtain ⟨t, rfl⟩ := rx
    have e : (PyData.str z).shown = reprText z := by simp only [PyData.shown]
    rw [e] at fin h3
    exact P.repr_of_str (fin _ _) h3
  | lst s0 s1 s2 =>
    cases rx
    exact repr_of_reads' rd h1 (fun z => hsm (h2 z)) hg (by omega) (fun _ _ q => q) (fun h' u tk hk => ⟨.str _, H, I.kept hk, ⟨_, rfl⟩, q⟩) h3
  | tup s1 s2 =>
    cases rx
    exact repr_of_reads' rd h1 (fun z => hsm (h2 z)) hg (by omega) (fun _ _ q => q) (fun h' u tk hk => ⟨.str _, H, I.kept hk, ⟨_, rfl⟩, q⟩) h3
  | dct e =>
    cases rx
    exact repr_of_reads' rd h1 (fun z => hsm (h2 z)) hg (by omega) (fun _ _ q => q) (fun h' u tk hk => ⟨.str _, H, I.kept hk, ⟨_, rfl⟩, q⟩) h3
def rBlt (f : B) (K : PySem.W.Frag) : List V → Hp → VK → Prop := fun xs H Q => match f with
  | .len => ∃ x n, xs = [x] ∧ LenV K x H n ∧ Q (.int n) H
  | .all => rAll K xs H Q
  | .any => rAny K xs H Q
  | .max => ∃ i j, xs = [.int i, .int j] ∧ Q (.int (if j > i then j else i)) H
  | .min => ∃ i j, xs = [.int i, .int j] ∧ Q (.int (if j < i then j else i)) H
  | .int => (∃ i, xs = [.int i] ∧ Q (.int i) H) ∨ ∃ k, xs = [.bl k] ∧ Q (.int (if k then 1 else 0)) H
  | .repr => ∃ x d l, xs = [x] ∧ Rp K H l x d ∧ d.showable = true ∧ (d.hasDict = true → l = false) ∧ d.shown.length ≤ sizeLine ∧ d.depth ≤ 60 ∧ Q (.str d.shown) H
  | .list => ∃ p ys, xs = [.ref p] ∧ (SqL K H p ys ∨ SqT K H p ys) ∧ ∀ l, H l = none → Q (.ref l) (upd H l (.lst ys))
  | .tuple => ∃ p ys, xs = [.ref p] ∧ ((SqL K H p ys ∧ ∀ l, H l = none → Q (.ref l) (upd H l (.tup ys))) ∨ (SqT K H p ys ∧ Q (.ref p) H))
/-- the built-in's own value -/
def B.val (f : B) : Value := match f with
  | .int => .type "int"
  | .list => .type "list"
  | .tuple => .type "tuple"
  | f => .builtin f.nm
theorem call_blt (hc : X.calm = true) (hg : X.A.guards = some []) (hu : X.A.units + 64 < cLine) (f : B) : CallR X f.val (rBlt f X.K) := by
  cases f with
  | len => exact call_len
  | all => exact cr_all hc
  | any => exact cr_any hc
  | max => exact call_max2 hc
  | min => exact call_min2 hc
  | int => exact call_int1
  | repr => exact call_reprD hg hu
  | list => exact call_list_of
  | tuple => exact call_tuple_of
theorem boot_blt (f : B) : bootBuiltins (Str.ofString f.nm) = some f.val := by cases f <;> decide +kernel
theorem reps_one {xs : List A} {vs : List V} {c : A} (r : RepAll K ρ H xs vs) (h : one? xs = some c) : ∃ v, vs = [v] ∧ Rep K ρ H c v := by
  cases r with
  | nil => cases h
  | cons h1 h2 =>
    cases h2 with
    | nil => cases h; exact ⟨_, rfl, h1⟩
    | cons _ _ => cases h
theorem reps_ints2 {xs : List A} {vs : List V} {p : Int × Int} (r : RepAll K ρ H xs vs) (h : ints2? xs = some p) : vs = [.int p.1, .int p.2] := by
  cases r with
  | nil => cases h
  | cons h1 h2 =>
    cases h2 with
    | nil => cases h1 <;> cases h
    | cons h3 h4 =>
      cases h4 with
      | nil =>
        cases h1 with
        | int i =>
          cases h3 with
          | int j => cases h; rfl
          | _ => cases h
        | _ => cases h
      | cons _ _ => cases h1 <;> first | cases h | (cases h3 <;> cases h)
theorem bltA_w {o : Bool} {f : B} {xs : List A} {vs : List V} (m : RepM K ρ H M) (r : RepAll K ρ H xs vs) (h : Post K mg (Rep K) ρ H (bltA o f xs M) Q E) : rBlt f K vs H (Fz Q) := by
  unfold bltA at h
  split at h
  · rename_i a e1
    obtain ⟨v, rfl, ra⟩ := reps_one r e1
    cases f with
    | len =>
      simp only [blt1, outI] at h
      split at h
      · rename_i n e2
        exact ⟨v, n, rfl, lenA_w m ra e2, fz_of (post_ok m (.int _) h)⟩
      · exact False.elim h
    | all =>
      obtain ⟨k, e, q⟩ := post_outV m h
      rw [Option.map_eq_some_iff] at e
      obtain ⟨bs, e, rfl⟩ := e
      rw [Option.bind_eq_some_iff] at e
      obtain ⟨ys, e2, e3⟩ := e
      obtain ⟨p, ws, rfl, s, rr⟩ := ra.asL m e2
      rw [allBl_rep rr e3] at s
      exact ⟨p, bs, rfl, s.sq, fz_of (q _ (.bl _))⟩
    | any =>
      obtain ⟨k, e, q⟩ := post_outV m h
      rw [Option.map_eq_some_iff] at e
      obtain ⟨bs, e, rfl⟩ := e
      rw [Option.bind_eq_some_iff] at e
      obtain ⟨ys, e2, e3⟩ := e
      obtain ⟨p, ws, rfl, s, rr⟩ := ra.asL m e2
      rw [allBl_rep rr e3] at s
      exact ⟨p, bs, rfl, s.sq, fz_of (q _ (.bl _))⟩
    | int =>
      obtain ⟨k, e, q⟩ := post_outV m h
      cases ra with
      | int i => cases e; exact .inl ⟨i, rfl, fz_of (q _ (.int _))⟩
      | bl b => cases e; exact .inr ⟨b, rfl, fz_of (q _ (.int _))⟩
      | _ => cases e
    | repr =>
      simp only [blt1, reprA] at h
      split at h
      · rename_i d e2
        split at h
        · rename_i hc
          simp only [Bool.and_eq_true, Bool.or_eq_true, decide_eq_true_eq, Bool.not_eq_true'] at hc
          refine ⟨v, d, a.hasL, rfl, ra.rpM m e2, hc.1.1.1, fun hd => ?_, hc.1.2, hc.2, fz_of (post_ok m (.str _) h)⟩
          rcases hc.1.1.2 with z | z
          · rw [hd] at z; exact Bool.noConfusion z
          · exact z
        · exact False.elim h
      · exact False.elim h
    | list =>
      simp only [blt1] at h
      split at h
      · rename_i ys e2
        obtain ⟨p, ws, rfl, s, rr⟩ := ra.asSeq m e2
        obtain ⟨_, q⟩ := fin_lst m rr h
        exact ⟨p, ws, rfl, s.imp SqX.sq id, q⟩
      · exact False.elim h
    | tuple =>
      obtain ⟨k, e, q⟩ := post_outV (Q := Q) m h
      rw [Option.map_eq_some_iff] at e
      obtain ⟨ys, e2, rfl⟩ := e
      obtain ⟨p, ws, rfl, s, rr⟩ := ra.asSeq m e2
      refine ⟨p, ws, rfl, ?_⟩
      rcases s with s | s
      · refine .inl ⟨s.sq, fun l hl => ?_⟩
        have g : Grow ρ H ρ (upd H l (.tup ws)) := Grow.laid hl
        have h' : Post K mg (Rep K) ρ H (outV ((asSeq M a).map .tup) M) Q E := h
        rw [e2] at h'
        exact fz_of (h' (.ref l) ρ _ g (.tup (SqT.of upd_same) (rr.mono g)) (m.laid hl))
      · exact .inr ⟨s, fz_of (q _ (.tup s rr))⟩
    | max => exact False.elim h
    | min => exact False.elim h
  · split at h
    · rename_i p e1
      have e := reps_ints2 r e1
      subst e
      cases f with
      | max => exact ⟨_, _, rfl, fz_of (post_ok m (.int _) h)⟩
      | min => exact ⟨_, _, rfl, fz_of (post_ok m (.int _) h)⟩
      | _ => exact False.elim h
    · exact False.elim h

/-! ### append, giving over, a[i] = x -/
theorem appA_w {xs : List A} {vs : List V} (m : RepM K ρ H M) (ra : Rep K ρ H a x) (r : RepAll K ρ H xs vs) (h : Post K mg (Rep K) ρ H (methA .append a xs M) Q E) : (tyV K "list" x H) ∧ rAppend x vs H Q := by
  simp only [methA] at h
  split at h
  · rename_i c e1
    obtain ⟨v, rfl, rc⟩ := reps_one r e1
    cases ra with
    | @ref p n e =>
      simp only [appA] at h
      split at h
      · rename_i ys e2
        split at h
        · rename_i hz
          obtain ⟨ws, hv, rv⟩ := m.cell _ _ _ e2 e
          refine ⟨.inl ⟨rfl, ws, SqL.of hv⟩, p, ws, v, rfl, rfl, hv, by rw [← rv.length]; exact hz, ?_⟩
          have g : Grow ρ H ρ (upd H p (.lst (ws ++ [v]))) := Grow.write (List.mem_of_getElem? e) hv rfl
          exact h .non ρ _ g .non (m.cellSet e hv (rv.append (.cons rc .nil)))
        · exact False.elim h
      · exact False.elim h
    | _ => exact False.elim h
  · exact False.elim h
theorem frzA_w (m : RepM K ρ H M) (ra : Rep K ρ H a x) (h : Post K mg (Rep K) ρ H (frzA a M) Q E) : Fz Q x H := by
  cases ra with
  | @ref p n e =>
    simp only [frzA] at h
    split at h
    · rename_i ys e2
      obtain ⟨ws, hv, rv⟩ := m.cell _ _ _ e2 e
      refine .inr ⟨p, ws, hv, fun o => ?_⟩
      have g : Grow ρ H ρ (upd H p (.frz o (.lst ws))) := Grow.write (List.mem_of_getElem? e) hv rfl
      exact h (.ref p) ρ _ g (.lst (.inl ⟨o, upd_same⟩) (rv.mono g)) (m.cellFrz e hv)
    · exact False.elim h
  | non => exact fz_of (post_ok m .non h)
  | bl b => exact fz_of (post_ok m (.bl b) h)
  | int b => exact fz_of (post_ok m (.int b) h)
  | str b => exact fz_of (post_ok m (.str b) h)
  | tup s r => exact fz_of (post_ok m (.tup s r) h)
  | lst s r => exact fz_of (post_ok m (.lst s r) h)
  | dct e => exact fz_of (post_ok m (.dct e) h)
theorem setA_w {c : A} {z : V} {N : Hp → Prop} (m : RepM K ρ H M) (ra : Rep K ρ H a x) (rb : Rep K ρ H b y) (rc : Rep K ρ H c z) (h : Post K mg (fun _ _ _ (_ : Unit) => True) ρ H (setA a b c M) (fun _ => N) E) : rSetL x y z H N := by
  cases ra with
  | @ref p n e =>
    simp only [setA] at h
    split at h
    · rename_i ys e2
      cases rb with
      | int k =>
        simp only at h
        split at h
        · rename_i j ej
          obtain ⟨ws, hv, rv⟩ := m.cell _ _ _ e2 e
          refine ⟨p, ws, k, j, rfl, rfl, hv, by rw [← rv.length]; exact ej, ?_⟩
          have g : Grow ρ H ρ (upd H p (.lst (ws.set j z))) := Grow.write (List.mem_of_getElem? e) hv rfl
          exact h () ρ _ g trivial (m.cellSet e hv (rv.set rc j))
        · exact False.elim h
      | _ => exact False.elim h
    · exact False.elim h
  | _ => exact False.elim h

/-! ### what is walked -/
theorem it_lst {p : Addr} {xs : List A} {vs : List V} (s : FzL K H p vs) (r : RepAll K ρ H xs vs) : ItRep K (Itl K p) ρ H xs := fun ρ' H' g => by
  have s' := (s.mono g).sq
  refine ⟨⟨vs, s', by rw [r.length]; exact Nat.le_refl _⟩, fun i x hx => ?_⟩
  obtain ⟨v, h1, h2⟩ := r.get hx
  refine ⟨⟨vs, v, s', h1⟩, fun w H'' hy => ?_⟩
  obtain ⟨rfl, hy⟩ := hy
  have e := hy vs s'
  rw [h1] at e
  cases e
  exact ⟨Grow.refl _ _, h2.mono g, fun M m => m⟩
theorem it_tup {p : Addr} {xs : List A} {vs : List V} (s : SqT K H p vs) (r : RepAll K ρ H xs vs) : ItRep K (Itt K p) ρ H xs := fun ρ' H' g => by
  have s' := SqT.mono g s
  refine ⟨⟨vs, s', by rw [r.length]; exact Nat.le_refl _⟩, fun i x hx => ?_⟩
  obtain ⟨v, h1, h2⟩ := r.get hx
  refine ⟨⟨vs, v, s', h1⟩, fun w H'' hy => ?_⟩
  obtain ⟨rfl, hy⟩ := hy
  have e := hy vs s'
  rw [h1] at e
  cases e
  exact ⟨Grow.refl _ _, h2.mono g, fun M m => m⟩
theorem it_str {z : Str} : ItRep K (Its z) ρ H (z.cps.toList.map fun c => .str ⟨#[c]⟩) := fun ρ' H' g => by
  refine ⟨by show z.cps.size ≤ _; simp, fun i x hx => ?_⟩
  rw [List.getElem?_map, Option.map_eq_some_iff] at hx
  obtain ⟨c, hc, rfl⟩ := hx
  have hi : i < z.cps.size := by
    have := (List.getElem?_eq_some_iff.mp hc).1
    simpa using this
  refine ⟨hi, fun w H'' hy => ?_⟩
  obtain ⟨rfl, d, hd, rfl⟩ := hy
  have e : z.cps[i]? = some c := by rw [← Array.getElem?_toList]; exact hc
  rw [e] at hd
  cases hd
  exact ⟨Grow.refl _ _, .str _, fun M m => m⟩
theorem it_range {n : Int} : ItRep K (Itr 0 n.toNat) ρ H (rangeA n) := fun ρ' H' g => by
  refine ⟨by show n.toNat ≤ _; simp [rangeA], fun i x hx => ?_⟩
  unfold rangeA at hx
  rw [List.getElem?_map, Option.map_eq_some_iff] at hx
  obtain ⟨c, hc, rfl⟩ := hx
  have hi := (List.getElem?_eq_some_iff.mp hc).1
  rw [List.length_range] at hi
  rw [List.getElem?_range hi] at hc
  cases hc
  refine ⟨hi, fun w H'' hy => ?_⟩
  obtain ⟨rfl, rfl⟩ := hy
  exact ⟨Grow.refl _ _, by rw [Int.zero_add]; exact .int _, fun M m => m⟩
/-- a list, a tuple, a text -/
def iAny (K : PySem.W.Frag) (tl : TE) : TI := fun σ H R => tl σ H fun x H1 => (∃ a, x = .ref a ∧ (∃ xs, SqL K H1 a xs) ∧ R (Itl K a) H1) ∨ (∃ a, x = .ref a ∧ (∃ xs, SqT K H1 a xs) ∧ R (Itt K a) H1) ∨ ∃ z, x = .str z ∧ R (Its z) H1
theorem pi_any {tg l : Expr} {tl : TE} (hl : PE X l tl) : PI X tg l (iAny X.K tl) := by
  refine ⟨fun pins s σ H R I h => ?_⟩
  refine thn (hl.run pins s σ H _ I h) fun v s1 ⟨x, H1, I1, r1, q1⟩ => ?_
  rcases q1 with ⟨a, e, ⟨xs, hq⟩, q⟩ | ⟨a, e, ⟨xs, hq⟩, q⟩ | ⟨z, e, q⟩
  · subst e
    cases r1
    obtain ⟨its, rv, p, hz⟩ := I1.list hq
    refine wpAny_pyIter_list p.isList ?_
    refine ⟨s1.heap.objs.size, [s1.heap.objs.size], _, _, H1, rfl, I1.kept (t' := s1.toks) fun b o e => Heap.get?_push_of_some _ e, turn_list a _, ⟨_, Heap.get?_push_size _ rfl, rfl, rfl⟩, fun b hb => ?_, q⟩
    have e : b = s1.heap.objs.size := by simpa using hb
    subst e
    exact I1.fpOk (Nat.le_refl _) (I1.hok.fresh (Nat.le_refl _))
  · subst e
    cases r1
    obtain ⟨its, rv, p, hz⟩ := I1.tuple hq
    refine wpAny_pyIter_tuple (show s1.heap.IsTuple a its.toArray from p) ?_
    refine ⟨s1.heap.objs.size, [s1.heap.objs.size], _, _, H1, rfl, I1.kept (t' := s1.toks) fun b o e => Heap.get?_push_of_some _ e, turn_tuple a _, ⟨_, Heap.get?_push_size _ rfl, rfl, rfl⟩, fun b hb => ?_, q⟩
    have e : b = s1.heap.objs.size := by simpa using hb
    subst e
    exact I1.fpOk (Nat.le_refl _) (I1.hok.fresh (Nat.le_refl _))
  · subst e
    obtain ⟨t, rfl⟩ := r1
    cases ha : z.cps.all (· < 128)
    · exact wpAny_pyIter_wide ha (pi_one (tk := s1.toks) I1 _ (turn_str _ z t "str_iterator" (.inr rfl)) ⟨_, Heap.get?_push_size _ rfl, rfl, rfl⟩ q)
    · exact wpAny_pyIter_ascii ha (pi_one (tk := s1.toks) I1 _ (turn_str _ z t "str_ascii_iterator" (.inl rfl)) ⟨_, Heap.get?_push_size _ rfl, rfl, rfl⟩ q)
end
end MP

/-! MP, part F: my text against the program's (chk), and the one theorem: what is checked is evaluated -/
namespace MP
open PySem PySem.Spec PyProof.Rows L2

/-- which names are defs, which are built-in -/
structure Inf where
  fns : List Str
  bs : List Str
def visB (sc : Scope) (x : Str) : Bool := match sc.names.lookup x with
  | some .local => true
  | some .cell => true
  | some .free => true
  | _ => false
def glB (sc : Scope) (x : Str) : Bool := match sc.names.lookup x with
  | some .globalImplicit => true
  | _ => false
def okName (x : Str) : Bool := !(x == ("__debug__" : Str)) && !(x == ("__classdict__" : Str)) && !(x == ("__name__" : Str))
theorem visB_ok {sc : Scope} {x : Str} (h : visB sc x = true) : Vis sc x := by
  unfold visB at h
  split at h <;> first | (rename_i e; first | exact .inl e | exact .inr (.inl e) | exact .inr (.inr e)) | exact Bool.noConfusion h
theorem glB_ok {sc : Scope} {x : Str} (h : glB sc x = true) : sc.names.lookup x = some .globalImplicit := by
  unfold glB at h
  split at h
  · assumption
  · exact Bool.noConfusion h
theorem okName_ok {x : Str} (h : okName x = true) : (x == ("__debug__" : Str)) = false ∧ (x == ("__classdict__" : Str)) = false ∧ x ≠ ("__name__" : Str) := by
  unfold okName at h
  simp only [Bool.and_eq_true, Bool.not_eq_true'] at h
  exact ⟨h.1.1, h.1.2, fun e => by rw [e] at h; simp at h⟩

/-! parts of the program's text -/
def plainB : Expr → Bool
  | .Starred _ _ => false
  | _ => true
theorem star_plain {e : Expr} {es : List Expr} {env : Env} (h : plainB e = true) : starEach (e :: es) env = (false, eval e env) :: starEach es env := by
  cases e <;> first | rfl | exact Bool.noConfusion h
def noSlice : Expr → Bool
  | .Slice _ _ _ _ => false
  | _ => true
theorem plainIx_of {e : Expr} (h : noSlice e = true) : PlainIx e := by
  cases e <;> first | exact fun _ _ => rfl | exact Bool.noConfusion h
def noSet : Expr → Bool
  | .Set _ _ _ => false
  | _ => true
theorem noMark_of {e : Expr} (op : CmpOp) (h : noSet e = true) : behindInMarks op e = false := by
  cases e <;> first | rfl | exact Bool.noConfusion h
theorem noFold_of {e : Expr} {env : Env} (h : noSet e = true) : ∀ x, foldedSetIterable e env x = pure x := by
  intro x
  cases e <;> first | rfl | exact Bool.noConfusion h
def isNameB : Expr → Bool
  | .Name _ _ => true
  | _ => false
theorem base_name {e : Expr} {n : Str} {env : Env} (h : isNameB e = true) : attributeBase e n env (eval e env) = eval e env := by
  cases e <;> first | rfl | exact Bool.noConfusion h
/-- a test that the model evaluates as a value -/
def plainT : Expr → Bool
  | .UnaryOp .Not _ _ => false
  | .BoolOp _ _ _ => false
  | .IfExp _ _ _ _ => false
  | .Compare _ _ _ _ => false
  | _ => true
theorem plainT_ok {e : Expr} {env : Env} (h : plainT e = true) : ∀ whole, isTrue e env whole = (do let v ← whole; standAt e.pos; holding [v] (truthy v)) := by
  intro whole
  cases e with
  | UnaryOp op x p => cases op <;> first | rfl | exact Bool.noConfusion h
  | BoolOp _ _ _ => exact Bool.noConfusion h
  | IfExp _ _ _ _ => exact Bool.noConfusion h
  | Compare _ _ _ _ => exact Bool.noConfusion h
  | _ => rfl
/-- no comprehension -/
def noComp : Expr → Bool
  | .ListComp _ _ _ _ => false
  | .SetComp _ _ _ _ => false
  | .DictComp _ _ _ _ _ => false
  | _ => true
theorem noComp_sw {e : Expr} (h : noComp e = true) (t : Option Expr) (l : Nat) (env : Env) : swapsWith e t l env = pure false := by
  cases e <;> first | rfl | exact Bool.noConfusion h
def chkTg (N : List Str) (sc : Scope) (tg : Tg) (e : Expr) : Bool := match tg with
  | .name i => match e with
    | .Name x _ => decide (N[i]? = some x) && (decide (sc.names.lookup x = some .local) || decide (sc.names.lookup x = some .cell))
    | _ => false
  | .tup is => match e with
    | .Tuple es _ _ => chkTgs N sc is es
    | _ => false
where
  chkTgs (N : List Str) (sc : Scope) : List Nat → List Expr → Bool
  | [], [] => true
  | i :: is, e :: es => (match e with
    | .Name x _ => decide (N[i]? = some x) && (decide (sc.names.lookup x = some .local) || decide (sc.names.lookup x = some .cell))
    | _ => false) && chkTgs N sc is es
  | _, _ => false
def ownOf (N : List Str) (vs : List Nat) : List (Str × Nat) := vs.map fun i => (N.getD i ⟨#[]⟩, i)
/-- the built-ins behind a node -/
def hasB (I : Inf) (sc : Scope) (x : Str) : Bool := glB sc x && decide (x ∈ I.bs) && okName x

mutual
def chkE (I : Inf) (N : List Str) (sc : Scope) : E → Expr → Bool
  | .var i, e => match e with
    | .Name x _ => decide (N[i]? = some x) && visB sc x && okName x
    | _ => false
  | .con c, e => match e with
    | .Constant c' _ _ => decide (c = c') && (cA c).isSome
    | _ => false
  | .glob x, e => match e with
    | .Name y _ => decide (x = y) && glB sc x && okName x
    | _ => false
  | .tup es, e => match e with
    | .Tuple xs _ _ => chkEs I N sc es xs
    | _ => false
  | .lst _ es, e => match e with
    | .List xs _ => chkEs I N sc es xs
    | _ => false
  | .bin _ op a b, e => match e with
    | .BinOp l op' r _ => decide (op = op') && chkE I N sc a l && chkE I N sc b r
    | _ => false
  | .neg a, e => match e with
    | .UnaryOp .USub x _ => chkE I N sc a x
    | _ => false
  | .cmp op a b, e => match e with
    | .Compare l [op'] [r] _ => decide (op = op') && noSet r && chkE I N sc a l && chkE I N sc b r
    | _ => false
  | .chain op1 op2 a b c, e => match e with
    | .Compare l [op1', op2'] [m, r] _ => decide (op1 = op1') && decide (op2 = op2') && noSet r && chkE I N sc a l && chkE I N sc b m && chkE I N sc c r
    | _ => false
  | .and a b, e => match e with
    | .BoolOp .And (x :: y :: r) p => chkE I N sc a x && chkE I N sc b (if r.isEmpty then y else .BoolOp .And (y :: r) p)
    | _ => false
  | .or a b, e => match e with
    | .BoolOp .Or (x :: y :: r) p => chkE I N sc a x && chkE I N sc b (if r.isEmpty then y else .BoolOp .Or (y :: r) p)
    | _ => false
  | .not a, e => match e with
    | .UnaryOp .Not x _ => chkE I N sc a x
    | _ => false
  | .ite c a b, e => match e with
    | .IfExp c' x y _ => chkE I N sc c c' && chkE I N sc a x && chkE I N sc b y
    | _ => false
  | .call f es, e => match e with
    | .Call (.Name g _) xs [] _ => decide (f = g) && decide (f ∈ I.fns) && glB sc f && okName f && chkEs I N sc es xs
    | _ => false
  | .blt _ f es, e => match e with
    | .Call (.Name g _) (x :: xs) [] _ => decide (Str.ofString f.nm = g) && hasB I sc g && chkEs I N sc es (x :: xs)
    | _ => false
  | .isi a c, e => match e with
    | .Call (.Name g _) [x, .Name d _] [] _ => decide (Str.ofString "isinstance" = g) && hasB I sc g && decide (Str.ofString c.nm = d) && hasB I sc d && decide (c ≠ .non) && plainB x && chkE I N sc a x
    | _ => false
  | .idx a i, e => match e with
    | .Subscript x y _ => noSlice y && chkE I N sc a x && chkE I N sc i y
    | _ => false
  | .slice _ a lo hi, e => match e with
    | .Subscript x (.Slice l h none _) _ => chkE I N sc a x && chkO I N sc lo l && chkO I N sc hi h
    | _ => false
  | .lc _ vs elt tg it ifs, e => match e with
    | .ListComp x [⟨t, i, fs, 0⟩] scope _ => noSet i && tg.slots.all (fun j => decide (j ∈ vs)) && blkC N sc scope (ownOf N vs) && chkTg N scope tg t && chkI I N sc it i && chkEs I N scope ifs fs && chkE I N scope elt x
    | _ => false
  | .meth m a es, e => match e with
    | .Call (.Attribute o n ap) (x :: xs) [] cp => decide (n = Str.ofString m.nm) && isNameB o && (ap.endLine == cp.line) && decide (xs.length < 29) && chkE I N sc a o && chkEs I N sc es (x :: xs)
    | _ => false
  | .frzv a, e => plainT e && chkE I N sc a e
  | .dnew, e => match e with
    | .Dict [] [] _ => true
    | _ => false
def chkEs (I : Inf) (N : List Str) (sc : Scope) : List E → List Expr → Bool
  | [], es => match es with
    | [] => true
    | _ => false
  | m :: ms, es => match es with
    | e :: es => plainB e && chkE I N sc m e && chkEs I N sc ms es
    | [] => false
def chkO (I : Inf) (N : List Str) (sc : Scope) : Option E → Option Expr → Bool
  | none, e => match e with
    | none => true
    | _ => false
  | some m, e => match e with
    | some e => chkE I N sc m e
    | none => false
def chkI (I : Inf) (N : List Str) (sc : Scope) : It → Expr → Bool
  | .over m, e => chkE I N sc m e
  | .range1 m, e => match e with
    | .Call (.Name g _) [x] [] _ => decide (Str.ofString "range" = g) && hasB I sc g && plainB x && chkE I N sc m x
    | _ => false
end

/-! ### the frame of the theorem -/
structure Ctx (X : Cx) (I : Inf) (P : Par) (W : WX) (k : Nat) : Prop where
  calm : X.calm = true
  nd : X.N.Nodup
  gd : X.A.guards = some []
  rm : Room k X.A
  gl : ∀ x a, P.glob x = some a → ∃ u v, X.mg x = some u ∧ RelV v u ∧ ∀ ρ H, Rep X.K ρ H a v
  fn : ∀ f ∈ I.fns, ∃ fa fd ps, X.mg f = some (.ref fa) ∧ PySem.W.keepIn X.K (.ref fa) = true ∧ Binds X.K fd ps [] ∧
    FnG X.prog X.w X.K X.mg X.base k fa fd ps (spOf X.K X.mg (P.call f) ps.length) ∧ ∀ xs M, xs.length ≠ ps.length → P.call f xs M = .stuck
  bl : ∀ b ∈ I.bs, X.mg b = none
  tk : Takes X W
theorem Ctx.blk {X : Cx} {I : Inf} {P : Par} {W : WX} {k : Nat} (C : Ctx X I P W k) (s : Shared) (H : Hp) (scope : Scope) (cenv : Env) (fp : List Addr) : Ctx (X.blk s H scope cenv fp) I P WX0 k :=
  ⟨C.calm, C.nd, C.gd, C.rm, C.gl, C.fn, C.bl, fun u s' h => by
    obtain ⟨_, _, _, _, _, _, _, _, _, _, _, _, _, _, _, _, h⟩ := h
    exact h⟩

section
variable {X : Cx} {I : Inf} {P : Par} {W : WX} {k : Nat}
theorem Ctx.units (C : Ctx X I P W k) : X.A.units + 64 < cLine := C.rm.units
theorem Ctx.units65 (C : Ctx X I P W k) : X.A.units + 65 < cLine := by have := C.rm.un; omega

/-- the written scope sc and the one that runs -/
structure Sub (sc : Scope) (X : Cx) : Prop where
  vis : ∀ x, visB sc x = true → Vis X.env.scope x
  gl : ∀ x, glB sc x = true → X.env.scope.names.lookup x = some .globalImplicit
  loc : ∀ x, sc.names.lookup x = some .local → X.env.scope.names.lookup x = some .local
  cell : ∀ x, sc.names.lookup x = some .cell → X.env.scope.names.lookup x = some .cell ∧ X.fn x = true
  cf : ∀ x, (sc.names.lookup x = some .cell ∨ sc.names.lookup x = some .free) → (X.env.scope.names.lookup x = some .cell ∨ X.env.scope.names.lookup x = some .free)
theorem Sub.same (hf : ∀ x, X.fn x = true) : Sub X.env.scope X :=
  ⟨fun x h => visB_ok h, fun x h => glB_ok h, fun x h => h, fun x h => ⟨h, hf x⟩, fun x h => h⟩
theorem lookup_map_some (f : Str × NameKind → Str × NameKind) (hf : ∀ p, (f p).1 = p.1) : ∀ (names : List (Str × NameKind)) (x : Str), ((names.map f).lookup x).isSome = (names.lookup x).isSome
  | [], x => rfl
  | p :: r, x => by
    have ih := lookup_map_some f hf r x
    have h1 := hf p
    obtain ⟨n, k⟩ := p
    rw [List.map_cons]
    generalize hq : f (n, k) = q at h1 ⊢
    obtain ⟨n', k'⟩ := q
    cases h1
    by_cases hx : x == n
    · simp [List.lookup, hx]
    · simpa [List.lookup, hx] using ih
theorem Sub.blk (scope : Scope) (s : Shared) (H : Hp) (C : Addr) (cl : List (Str × Addr)) (fp : List Addr) : Sub scope (X.blk s H scope (compEnvC scope cl C X.env) fp) := by
  have keep : ∀ x k, k ≠ NameKind.free → scope.names.lookup x = some k → (relabel scope X.env).names.lookup x = some k := fun x k hk h => lookup_relS_keep (sc := X.env.scope) hk h
  have fr : ∀ x, scope.names.lookup x = some .free → (relabel scope X.env).names.lookup x = some .cell ∨ (relabel scope X.env).names.lookup x = some .free := by
    intro x h
    have q : ((relS scope X.env.scope).names.lookup x).isSome = true := by
      show ((scope.names.map _).lookup x).isSome = true
      rw [lookup_map_some, h]
      · rfl
      · rintro ⟨n, k0⟩
        show (if _ then (n, NameKind.cell) else (n, k0)).1 = n
        split <;> rfl
    obtain ⟨k, hk⟩ := Option.isSome_iff_exists.mp q
    obtain ⟨k', h1, h2⟩ := lookup_relS (sc := X.env.scope) hk
    rw [h] at h1
    cases h1
    rcases h2 with rfl | ⟨_, rfl⟩
    · exact .inr hk
    · exact .inl hk
  refine ⟨fun x h => ?_, fun x h => keep x _ (by decide) (glB_ok h), fun x h => keep x _ (by decide) h, fun x h => ⟨keep x _ (by decide) h, by show (scope.names.lookup x == some .cell) = true; rw [h]; rfl⟩, fun x h => ?_⟩
  · rcases visB_ok h with h | h | h
    · exact .inl (keep x _ (by decide) h)
    · exact .inr (.inl (keep x _ (by decide) h))
    · exact .inr (fr x h)
  · rcases h with h | h
    · exact .inl (keep x _ (by decide) h)
    · exact fr x h
theorem Sub.blkC {sc scope : Scope} {own : List (Str × Nat)} (hs : Sub sc X) (h : blkC X.N sc scope own = true) : BlkOk X.N X.env.scope scope own := by
  have ok := blkOk_by h
  exact ⟨ok.kind, ok.uniq, ok.ix, fun y hy e => hs.cf _ (ok.free y hy e), ok.own⟩

/-- two in a row -/
theorem le_bind {α β γ δ : Type} {K : PySem.W.Frag} {mg : Str → Option Value} {S : List Addr → Hp → γ → δ → Prop} {R : List Addr → Hp → α → β → Prop} {ρ : List Addr} {H : Hp} {ς : Loc} {σ : L2.St} {M : Mem} {o : Out α} {f : α → Mem → Out γ} {Q : δ → Hp → Prop} {Q' : β → Hp → Prop} {E : Value → Option Addr → Hp → Prop}
    (at_ : At K ρ H ς σ M) (h : Post K mg S ρ H (o.bind f) Q E) (q : ∀ a M1 ρ1 v H1, At K ρ1 H1 ς σ M1 → Grow ρ H ρ1 H1 → R ρ1 H1 a v → Post K mg S ρ1 H1 (f a M1) Q E → Q' v H1) : Post K mg R ρ H o Q' E :=
  (Post.bind (R := R) h).imp (fun v H1 ⟨a, M1, ρ1, g, r, m, p⟩ => q a M1 ρ1 v H1 ⟨at_.s.mono g, m⟩ g r p) fun _ _ _ z => z

theorem tg_name {i : Nat} {x : Str} {pos : Pos} (hN : X.N.Nodup) (hi : X.N[i]? = some x) (hx : L2.Loc X.env.scope x) (hf : X.fn x = true ∨ X.env.scope.names.lookup x = some .local) : PG X (.Name x pos) (LG X.K (.name i)) := by
  refine pg_w (pg_name hN hi hx hf) fun v σ H Q h => ?_
  obtain ⟨ρ, ς, M, a, at_, r, ς', e, q⟩ := h
  cases e
  exact q _ (at_.s.set r) fun j hj => by
    rw [List.getElem?_set_ne]
    intro e
    exact hj (by rw [← e]; exact List.mem_singleton_self _)
theorem assignLen : ∀ (es : List Expr) (env : Env), (assignEach es env).length = es.length
  | [], _ => rfl
  | e :: es, env => by
    cases e <;> simp [assignEach, assignLen es env]
theorem assignStar : ∀ (es : List Expr) (env : Env), es.all isNameB = true → (assignEach es env).findIdx? (·.1) = none
  | [], _, _ => rfl
  | e :: es, env, h => by
    rw [List.all_cons, Bool.and_eq_true] at h
    cases e <;> first | exact Bool.noConfusion h.1 | skip
    simp [assignEach, List.findIdx?_cons, assignStar es env h.2]
theorem tgs_names {N : List Str} {sc : Scope} : ∀ (is : List Nat) (es : List Expr), chkTg.chkTgs N sc is es = true → es.all isNameB = true ∧ es.length = is.length
  | [], [], _ => ⟨rfl, rfl⟩
  | i :: is, e :: es, h => by
    simp only [chkTg.chkTgs, Bool.and_eq_true] at h
    obtain ⟨h1, h2⟩ := tgs_names is es h.2
    refine ⟨?_, by simp [h2]⟩
    rw [List.all_cons, h1, Bool.and_true]
    have h3 := h.1
    cases e <;> first | rfl | exact Bool.noConfusion h3
  | [], _ :: _, h => by simp [chkTg.chkTgs] at h
  | _ :: _, [], h => by simp [chkTg.chkTgs] at h
def LGs (K : PySem.W.Frag) (is : List Nat) : TGs := fun vs σ H Q => ∃ ρ ς M xs, At K ρ H ς σ M ∧ RepAll K ρ H xs vs ∧ ∃ ς', setAll ς is xs = some ς' ∧ ∀ σ', RepS K ρ H ς' σ' → (∀ j, j ∉ is → σ'[j]? = σ[j]?) → Q σ' H
theorem tg_name' {sc : Scope} (hs : Sub sc X) {i : Nat} {x : Str} {pos : Pos} (hN : X.N.Nodup) (hi : X.N[i]? = some x) (hx : sc.names.lookup x = some .local ∨ sc.names.lookup x = some .cell) : PG X (.Name x pos) (LG X.K (.name i)) := by
  rcases hx with hx | hx
  · exact tg_name hN hi (.inl (hs.loc x hx)) (.inr (hs.loc x hx))
  · exact tg_name hN hi (.inr (hs.cell x hx).1) (.inl (hs.cell x hx).2)
theorem tgs_ok {sc : Scope} (hs : Sub sc X) (hN : X.N.Nodup) : ∀ (is : List Nat) (es : List Expr), chkTg.chkTgs X.N sc is es = true → PGs X es (LGs X.K is)
  | [], [], _ => ⟨fun pins s σ H vs us Q I r q => by
    obtain ⟨ρ, ς, M, xs, at_, rr, ς', e, q⟩ := q
    cases xs with
    | nil =>
      cases rr
      cases e
      exact pgs_nil.run pins s σ H [] us Q I r ⟨rfl, q _ at_.s fun _ _ => rfl⟩
    | cons _ _ => simp [setAll] at e⟩
  | i :: is, e :: es, h => by
    simp only [chkTg.chkTgs, Bool.and_eq_true] at h
    obtain ⟨h1, h2⟩ := h
    have ih := tgs_ok hs hN is es h2
    cases e <;> first | exact Bool.noConfusion h1 | skip
    rename_i x pos
    simp only [Bool.and_eq_true, decide_eq_true_eq, Bool.or_eq_true] at h1
    have pg : PG X (.Name x pos) (LG X.K (.name i)) := tg_name' hs hN h1.1 h1.2
    refine ⟨fun pins s σ H vs us Q I r q => (pgs_cons pg ih).run pins s σ H vs us Q I r ?_⟩
    obtain ⟨ρ, ς, M, xs, at_, rr, ς', e, q⟩ := q
    cases rr with
    | nil => simp [setAll] at e
    | cons r1 r2 =>
      rename_i a v as vs
      refine ⟨v, vs, rfl, ρ, ς, M, a, at_, r1, _, rfl, fun σ' hs hj => ?_⟩
      refine ⟨ρ, _, M, as, ⟨hs, at_.m⟩, r2, ς', e, fun σ2 h2 hj2 => q σ2 h2 fun j hn => ?_⟩
      rw [hj2 j fun z => hn (List.mem_cons_of_mem _ z), hj j fun z => hn (by rw [List.mem_singleton.mp z]; exact List.mem_cons_self)]
  | [], _ :: _, h => by simp [chkTg.chkTgs] at h
  | _ :: _, [], h => by simp [chkTg.chkTgs] at h
theorem tg_ok {sc : Scope} (hs : Sub sc X) (hc : X.calm = true) (hN : X.N.Nodup) (tg : Tg) (e : Expr) (h : chkTg X.N sc tg e = true) : PG X e (LG X.K tg) := by
  cases tg with
  | name i =>
    cases e <;> first | exact Bool.noConfusion h | skip
    rename_i x pos
    simp only [chkTg, Bool.and_eq_true, decide_eq_true_eq, Bool.or_eq_true] at h
    exact tg_name' hs hN h.1 h.2
  | tup is =>
    cases e <;> first | exact Bool.noConfusion h | skip
    rename_i es kk pos
    have h' : chkTg.chkTgs X.N sc is es = true := h
    obtain ⟨h1, h2⟩ := tgs_names is es h'
    refine pg_w (pg_tup hc (tgs_ok hs hN is es h') (n := is.length) (by rw [assignLen, h2]) (assignStar es _ h1)) fun v σ H Q q => ?_
    obtain ⟨ρ, ς, M, a, at_, r, ς', e, q⟩ := q
    cases r with
    | @tup p xs vs s rr =>
      have e' : setAll ς is xs = some ς' := e
      have hl : ∀ (is : List Nat) (xs : List A) (ς : Loc), setAll ς is xs = some ς' → xs.length = is.length := by
        intro is
        induction is with
        | nil => intro xs ς e; cases xs <;> simp [setAll] at e ⊢
        | cons i is ih => intro xs ς e; cases xs <;> simp [setAll] at e ⊢; exact ih _ _ e
      exact ⟨p, vs, rfl, s, by rw [← rr.length]; exact hl _ _ _ e', ρ, ς, M, xs, at_, rr, ς', e', q⟩
    | _ => cases e
end
end MP

/-! MP, part G: expressions -/
namespace MP
open PySem PySem.Spec PyProof.Rows L2
section
variable {X : Cx} {I : Inf} {P : Par} {W : WX} {k : Nat}

theorem starAny : ∀ (es : List Expr) (env : Env) (pos : Pos), es.all plainB = true → (backTo pos (starEach es env)).any (·.1) = false
  | [], _, _, _ => rfl
  | e :: es, env, pos, h => by
    rw [List.all_cons, Bool.and_eq_true] at h
    rw [star_plain h.1]
    show (false || (backTo pos (starEach es env)).any (·.1)) = false
    rw [starAny es env pos h.2]; rfl
theorem starLen : ∀ (es : List Expr) (env : Env), (starEach es env).length = es.length
  | [], _ => rfl
  | e :: es, env => by cases e <;> simp [starEach, starLen es env]
theorem starAll : ∀ (es : List Expr) (env : Env) (pos : Pos), es.all plainB = true → (backTo pos (starEach es env)).all (fun x => !x.1) = true
  | [], _, _, _ => rfl
  | e :: es, env, pos, h => by
    rw [List.all_cons, Bool.and_eq_true] at h
    rw [star_plain h.1]
    show (true && (backTo pos (starEach es env)).all (fun x => !x.1)) = true
    rw [starAll es env pos h.2]; rfl
theorem chkEs_plain {N : List Str} {sc : Scope} : ∀ (ms : List E) (es : List Expr), chkEs I N sc ms es = true → es.all plainB = true
  | [], [], _ => rfl
  | [], _ :: _, h => by simp [chkEs] at h
  | _ :: _, [], h => by simp [chkEs] at h
  | m :: ms, e :: es, h => by
    simp only [chkEs, Bool.and_eq_true] at h
    rw [List.all_cons, h.1.1, chkEs_plain ms es h.2]; rfl

/-- a def's call -/
theorem call_fit {mg : Str → Option Value} {K : PySem.W.Frag} {f : Str} {m : Nat} {vs : List V} {H : Hp} {Q : VK} {E : XK} {g : List A → Mem → Out A} (hst : ∀ xs M, xs.length ≠ m → g xs M = .stuck)
    (h : ∃ ρ M xs, RepAll K ρ H xs vs ∧ RepM K ρ H M ∧ Post K mg (Rep K) ρ H (g xs M) Q E) : spOf K mg g m vs H Q E := by
  obtain ⟨ρ, M, xs, r, m', po⟩ := h
  refine ⟨?_, ρ, M, xs, r, m', po⟩
  rw [← r.length]
  apply Classical.byContradiction
  intro e
  rw [hst xs M e] at po
  exact False.elim po
theorem pe_callG (C : Ctx X I P W k) {f : Str} {e : Expr} {es : List Expr} {p pos : Pos} {t : TA} (hf : f ∈ I.fns) (hg : Gl X f) (hn : okName f = true) (hp : (e :: es).all plainB = true) (ha : PA X (e :: es) t) :
    PE X (.Call (.Name f p) (e :: es) [] pos) (fun σ H Q => t σ H fun vs H1 => ∃ ρ M xs, RepAll X.K ρ H1 xs vs ∧ RepM X.K ρ H1 M ∧ Post X.K X.mg (Rep X.K) ρ H1 (P.call f xs M) Q (fun c d H' => W c d σ H')) := by
  obtain ⟨fa, fd, ps, hm, hk, hb, F, hst⟩ := C.fn f hf
  refine ⟨fun pins s σ H Q J h => ?_⟩
  rw [List.all_cons, Bool.and_eq_true] at hp
  refine wpAny_Call_Name_kw (ld_glob J hg hm ?_ (okName_ok hn).1)
  refine PySem.W.callWith_K (h₀ := X.base) J.ok.mod.kin hk (thn (ha.run pos pins s σ H _ J h) fun us s1 ⟨vs, H1, I1, r, q⟩ => ⟨I1.kIn, ?_⟩) (star_plain hp.1) (starAny es _ pos hp.2)
  exact run_fnG F C.rm C.gd hb C.tk (fun _ _ _ z => z) I1 r (call_fit (f := f) hst q)
theorem pe_callG0 (C : Ctx X I P W k) {f : Str} {p pos : Pos} (hf : f ∈ I.fns) (hg : Gl X f) (hn : okName f = true) :
    PE X (.Call (.Name f p) [] [] pos) (fun σ H Q => ∃ ρ M, RepM X.K ρ H M ∧ Post X.K X.mg (Rep X.K) ρ H (P.call f [] M) Q (fun c d H' => W c d σ H')) := by
  obtain ⟨fa, fd, ps, hm, hk, hb, F, hst⟩ := C.fn f hf
  refine ⟨fun pins s σ H Q J h => ?_⟩
  refine wpAny_Call_Name_kw (ld_glob J hg hm ?_ (okName_ok hn).1)
  refine PySem.W.callWith_K0 J.kIn hk ?_
  obtain ⟨ρ, M, m, po⟩ := h
  exact run_fnG (us := []) F C.rm C.gd hb C.tk (fun _ _ _ z => z) J .nil (call_fit (f := f) hst ⟨ρ, M, [], .nil, m, po⟩)

/-! ### a comprehension -/
theorem noExc_bind {α β : Type} (o : Out α) (f : α → Mem → Out β) : (o.bind f).noExc = o.noExc.bind fun a M => (f a M).noExc := by cases o <;> rfl
theorem Post.bindB {K : PySem.W.Frag} {mg : Str → Option Value} {α β γ δ : Type} {R : List Addr → Hp → α → β → Prop} {S : List Addr → Hp → γ → δ → Prop} {ρ0 ρ : List Addr} {H0 H : Hp} {o : Out α} {f : α → Mem → Out γ} {Q : δ → Hp → Prop} {E : Value → Option Addr → Hp → Prop}
    (g : Grow ρ0 H0 ρ H) (h : Post K mg S ρ0 H0 (o.noExc.bind f) Q E) {E' : Value → Option Addr → Hp → Prop} :
    Post K mg R ρ H o (fun v H1 => ∃ a M1 ρ1, Grow ρ H ρ1 H1 ∧ R ρ1 H1 a v ∧ RepM K ρ1 H1 M1 ∧ Post K mg S ρ0 H0 (f a M1) Q E) E' := by
  cases o with
  | ok a M => exact fun v ρ1 H1 g1 r m => ⟨a, M, ρ1, g1, r, m, h⟩
  | exc x M => exact False.elim h
  | stuck => exact False.elim h
/-- the list that a comprehension has made is taken as a cell, or given over -/
theorem fin_at {K : PySem.W.Frag} {mg : Str → Option Value} {ρ0 ρ : List Addr} {H0 H : Hp} {D : Addr} {o : Bool} {acc : List A} {vs : List V} {M : Mem} {Q : VK} {E : Value → Option Addr → Hp → Prop} (g : Grow ρ0 H0 ρ H) (h0 : H0 D = none) (hD : H D = some (.lst vs)) (nD : D ∉ ρ)
    (r : RepAll K ρ H acc vs) (m : RepM K ρ H M) (h : Post K mg (Rep K) ρ0 H0 (finL o acc M) Q E) : Fz Q (.ref D) H := by
  obtain ⟨t, rfl, ht⟩ := g.ad
  unfold finL at h
  split at h
  · cases o with
    | true =>
      rw [if_pos rfl] at h
      have g2 : Grow ρ0 H0 (ρ0 ++ t ++ [D]) H := ⟨⟨t ++ [D], by simp, fun a ha => by
        rcases List.mem_append.mp ha with ha | ha
        · exact ht a ha
        · simp at ha; subst ha; exact h0⟩, g.st, g.th⟩
      have g3 : Grow (ρ0 ++ t) H (ρ0 ++ t ++ [D]) H → True := fun _ => trivial
      have mono : ∀ {x v}, Rep K (ρ0 ++ t) H x v → Rep K (ρ0 ++ t ++ [D]) H x v := fun {x v} r => rep_more r
      refine .inl (h (.ref D) _ H g2 (.ref (by rw [← m.len]; simp)) ⟨by have := m.len; simp at this ⊢; omega, ?_, fun a ha => ?_, fun n c a h1 h2 => ?_⟩)
      · rw [List.nodup_append]
        exact ⟨m.nd, by simp, fun a ha b hb e => by simp at hb; subst hb; subst e; exact nD ha⟩
      · rcases List.mem_append.mp ha with ha | ha
        · exact m.th a ha
        · simp at ha; subst ha; rw [hD]; simp
      · by_cases hn : n < M.length
        · rw [List.getElem?_append_left hn] at h1
          rw [List.getElem?_append_left (by rw [m.len]; exact hn)] at h2
          have hc := m.cell n c a h1 h2
          cases c with
          | lst xs =>
            obtain ⟨ws, e, r⟩ := hc
            exact ⟨ws, e, reps_more r⟩
          | dct _ => exact hc
          | dead => trivial
        · rw [List.getElem?_append_right (Nat.le_of_not_lt hn)] at h1
          rw [List.getElem?_append_right (by rw [m.len]; exact Nat.le_of_not_lt hn), m.len] at h2
          cases hk : n - M.length with
          | zero =>
            rw [hk] at h1 h2
            simp at h1 h2
            subst h1 h2
            exact ⟨vs, hD, reps_more r⟩
          | succ k => rw [hk] at h1; simp at h1
    | false =>
      rw [if_neg (by decide)] at h
      refine .inr ⟨D, vs, hD, fun ob => ?_⟩
      obtain ⟨m', keep⟩ := m.other (u := .frz ob (.lst vs)) nD hD rfl
      have g2 : Grow ρ0 H0 (ρ0 ++ t) (upd H D (.frz ob (.lst vs))) := ⟨⟨t, rfl, ht⟩, fun b u hb hs => by
        rw [upd_ne (ne_of_none hb h0)]
        exact g.st b u hb hs, fun b hb => by
        by_cases e : b = D
        · subst e; exact absurd h0 hb
        · rw [upd_ne e]; exact g.th b hb⟩
      exact h (.ref D) _ _ g2 (.lst (.inl ⟨ob, upd_same⟩) (reps_map (fun r => keep r) r)) m'
  · exact False.elim h
where
  rep_more {K : PySem.W.Frag} {ρ : List Addr} {H : Hp} {D : Addr} {x : A} {v : V} (r : Rep K ρ H x v) : Rep K (ρ ++ [D]) H x v :=
    (rm ρ H D (sizeOf x + 1)).1 (Nat.lt_succ_self _) r
  reps_more {K : PySem.W.Frag} {ρ : List Addr} {H : Hp} {D : Addr} {x : List A} {v : List V} (r : RepAll K ρ H x v) : RepAll K (ρ ++ [D]) H x v :=
    (rm ρ H D (sizeOf x + 1)).2 (Nat.lt_succ_self _) r
  rm {K : PySem.W.Frag} (ρ : List Addr) (H : Hp) (D : Addr) : ∀ n : Nat, (∀ {x v}, sizeOf x < n → Rep K ρ H x v → Rep K (ρ ++ [D]) H x v) ∧ (∀ {xs vs}, sizeOf xs < n → RepAll K ρ H xs vs → RepAll K (ρ ++ [D]) H xs vs) := by
    intro n
    induction n with
    | zero => exact ⟨fun h => absurd h (Nat.not_lt_zero _), fun h => absurd h (Nat.not_lt_zero _)⟩
    | succ n ih =>
      refine ⟨fun {x v} hn h => ?_, fun {xs vs} hn h => ?_⟩
      · cases h with
        | non => exact .non
        | bl b => exact .bl b
        | int i => exact .int i
        | str s => exact .str s
        | tup h r => exact .tup h (ih.2 (by simp at hn; omega) r)
        | lst h r => exact .lst h (ih.2 (by simp at hn; omega) r)
        | dct h => exact .dct h
        | ref h => exact .ref (by rw [List.getElem?_append_left (List.getElem?_eq_some_iff.mp h).1]; exact h)
      · cases h with
        | nil => exact .nil
        | cons h r => exact .cons (ih.1 (by simp at hn; omega) h) (ih.2 (by simp at hn; omega) r)
  reps_map {K : PySem.W.Frag} {ρ ρ' : List Addr} {H H' : Hp} (f : ∀ {x v}, Rep K ρ H x v → Rep K ρ' H' x v) : ∀ {xs vs}, RepAll K ρ H xs vs → RepAll K ρ' H' xs vs
    | _, _, .nil => .nil
    | _, _, .cons h r => .cons (f h) (reps_map f r)
/-- one turn of a comprehension -/
def lcF (P : Par) (vs : List Nat) (elt : E) (tg : Tg) (ifs : List E) (ς : Loc) : A → Mem → Out (Option A) := fun x M2 => match bindT tg x (wipeA ς vs) with
  | some ς2 => (evTs P ifs ς2 M2).bind fun b M3 => if b = true then (evE P elt ς2 M3).bind fun y M4 => .ok (some y) M4 else .ok none M3
  | none => .stuck
theorem wipe_get (σ : L2.St) : ∀ (vs : List Nat) (j : Nat), (wipe σ vs)[j]? = if j ∈ vs ∧ j < σ.length then some none else σ[j]?
  | [], j => by simp [wipe]
  | v :: vs, j => by
    have ih := wipe_get σ vs j
    show ((wipe σ vs).set v none)[j]? = _
    by_cases hj : v = j
    · subst hj
      by_cases hl : v < σ.length
      · rw [List.getElem?_set_self (by rw [wipe_length]; exact hl)]
        simp [hl]
      · rw [List.getElem?_eq_none (by rw [List.length_set, wipe_length]; omega)]
        simp [hl]
    · rw [List.getElem?_set_ne hj, ih]
      have : (j ∈ v :: vs) ↔ j ∈ vs := by simp [Ne.symm hj]
      simp only [this]
theorem wipe_same {σ σ2 : L2.St} {vs is : List Nat} (hl : σ2.length = σ.length) (hi : ∀ i ∈ is, i ∈ vs) (h : ∀ j, j ∉ is → σ2[j]? = (wipe σ vs)[j]?) : wipe σ2 vs = wipe σ vs := by
  apply List.ext_getElem?
  intro j
  rw [wipe_get σ2, hl]
  by_cases hj : j ∈ vs
  · rw [wipe_get σ]
    by_cases hlt : j < σ.length
    · simp [hj, hlt]
    · simp [hj, hlt, hl]
  · rw [if_neg (by simp [hj]), h j fun z => hj (hi j z)]
theorem pe_lcA {sc : Scope} (C : Ctx X I P W k) (hs : Sub sc X) {o : Bool} {vs : List Nat} {elt : E} {tg : Tg} {ifs : List E} {x i t : Expr} {fs : List Expr} {scope : Scope} {ev : Loc → Mem → Out (List A)}
    (hset : noSet i = true) (hin : ∀ j ∈ tg.slots, j ∈ vs) (ok : BlkOk X.N X.env.scope scope (ownOf X.N vs)) (hi : PI X t i (LI X.K X.mg W ev))
    (hg : ∀ (s : Shared) (H : Hp) (C : Addr) (cl : List (Str × Addr)) (fp : List Addr), PG (X.blk s H scope (compEnvC scope cl C X.env) fp) t (LG X.K tg))
    (ht : ∀ (s : Shared) (H : Hp) (C : Addr) (cl : List (Str × Addr)) (fp : List Addr), PTs (X.blk s H scope (compEnvC scope cl C X.env) fp) fs (LT X.K X.mg WX0 (evTs P ifs)))
    (he : ∀ (s : Shared) (H : Hp) (C : Addr) (cl : List (Str × Addr)) (fp : List Addr), PE (X.blk s H scope (compEnvC scope cl C X.env) fp) x (LE X.K X.mg WX0 (evE P elt))) :
    ∀ σ H Q, LE X.K X.mg W (fun ς M => (ev ς M).bind fun xs M1 => (lcL (lcF P vs elt tg ifs ς) xs M1).noExc.bind fun ys M2 => finL o ys M2) σ H Q →
      tLc (LI X.K X.mg W ev) (LG X.K tg) (LT X.K X.mg WX0 (evTs P ifs)) (LE X.K X.mg WX0 (evE P elt)) vs σ H (Fz Q) := by
  intro σ H Q ⟨ρ, ς, M, at_, h⟩
  refine ⟨ρ, ς, M, at_, le_bind at_ h fun xs M1 ρ1 J H1 at1 g1 J1 h1 => ?_⟩
  intro D hD
  have start : RepM X.K ρ1 (upd H1 D (.lst [])) M1 := at1.m.laid hD
  have gD : Grow ρ1 H1 ρ1 (upd H1 D (.lst [])) := Grow.laid hD
  have nD1 : D ∉ ρ1 := fun z => at1.m.th D z hD
  refine ⟨fun i m H' => m = xs.length - i ∧ i ≤ xs.length ∧ ∃ ρ' M' acc ws, Grow ρ1 H1 ρ' H' ∧ D ∉ ρ' ∧ H' D = some (.lst ws) ∧ RepAll X.K ρ' H' acc ws ∧ RepM X.K ρ' H' M' ∧
      Post X.K X.mg (Rep X.K) ρ1 H1 ((lcL (lcF P vs elt tg ifs ς) (xs.drop i) M').noExc.bind fun ys M2 => finL o (acc ++ ys) M2) Q (fun c d H' => W c d σ H'),
    ⟨xs.length, by simp, Nat.zero_le _, ρ1, M1, [], [], gD, nD1, upd_same, .nil, start, by simpa using h1⟩, ?_⟩
  rintro i m H' ⟨rfl, hle, ρ', M', acc, ws, g, nD, hDw, ra, rm, po⟩
  obtain ⟨hstop, hgo⟩ := J1 ρ' H' g
  by_cases hlt : i < xs.length
  · have hx : xs[i]? = some xs[i] := List.getElem?_eq_getElem hlt
    obtain ⟨go, yld⟩ := hgo i _ hx
    have hdrop : xs.drop i = xs[i] :: xs.drop (i + 1) := List.drop_eq_getElem_cons hlt
    rw [hdrop] at po
    have po' : Post X.K X.mg (Rep X.K) ρ1 H1 ((lcF P vs elt tg ifs ς xs[i] M').noExc.bind fun r M1 => (lcL (lcF P vs elt tg ifs ς) (xs.drop (i + 1)) M1).noExc.bind fun ys M2 => finL o (acc ++ (match r with | some y => y :: ys | none => ys)) M2) Q (fun c d H' => W c d σ H') := by
      have e : ((lcL (lcF P vs elt tg ifs ς) (xs[i] :: xs.drop (i + 1)) M').noExc.bind fun ys M2 => finL o (acc ++ ys) M2) = ((lcF P vs elt tg ifs ς xs[i] M').noExc.bind fun r M1 => (lcL (lcF P vs elt tg ifs ς) (xs.drop (i + 1)) M1).noExc.bind fun ys M2 => finL o (acc ++ (match r with | some y => y :: ys | none => ys)) M2) := by
        simp only [lcL]
        cases lcF P vs elt tg ifs ς xs[i] M' with
        | ok r M1 =>
          simp only [Out.bind_ok, Out.noExc_ok]
          cases lcL (lcF P vs elt tg ifs ς) (xs.drop (i + 1)) M1 <;> rfl
        | exc _ _ => rfl
        | stuck => rfl
      rw [← e]; exact po
    refine .inr ⟨go, fun H4 => ∃ ρ' M' acc ws, Grow ρ1 H1 ρ' H4 ∧ D ∉ ρ' ∧ H4 D = some (.lst ws) ∧ RepAll X.K ρ' H4 acc ws ∧ RepM X.K ρ' H4 M' ∧
      Post X.K X.mg (Rep X.K) ρ1 H1 ((lcL (lcF P vs elt tg ifs ς) (xs.drop (i + 1)) M').noExc.bind fun ys M2 => finL o (acc ++ ys) M2) Q (fun c d H' => W c d σ H'),
      fun H4 q => ⟨xs.length - (i + 1), by omega, rfl, hlt, q⟩, fun v H2 hy => ?_⟩
    obtain ⟨gy, ry, my⟩ := yld v H2 hy
    have rm2 := my M' rm
    have g2 := g.trans gy
    have hD2 : H2 D = some (.lst ws) := gy.st D _ hDw (.inl nD)
    have at2 : At X.K ρ' H2 (wipeA ς vs) (wipe σ vs) M' := ⟨(at1.s.mono g2).wipe vs, rm2⟩
    cases hb : bindT tg xs[i] (wipeA ς vs) with
    | none =>
      unfold lcF at po'
      rw [hb] at po'
      exact False.elim po'
    | some ς2 =>
      refine ⟨ρ', _, M', xs[i], at2, ry, ς2, hb, fun σ2 hs2 hj2 => ⟨?_, ?_⟩⟩
      · refine wipe_same ?_ hin hj2
        rw [← hs2.1]
        have : ς2.length = (wipeA ς vs).length := bindT_len hb
        rw [this, (at2.s).1, wipe_length]
      · have e : lcF P vs elt tg ifs ς xs[i] M' = (evTs P ifs ς2 M').bind fun b M3 => if b = true then (evE P elt ς2 M3).bind fun y M4 => .ok (some y) M4 else .ok none M3 := by
          unfold lcF; rw [hb]
        rw [e, noExc_bind] at po'
        have po2 : Post X.K X.mg (Rep X.K) ρ1 H1 ((evTs P ifs ς2 M').noExc.bind fun b M3 => ((if b = true then (evE P elt ς2 M3).bind fun y M4 => .ok (some y) M4 else .ok none M3 : Out (Option A)).noExc.bind fun r M1 => (lcL (lcF P vs elt tg ifs ς) (xs.drop (i + 1)) M1).noExc.bind fun ys M2 => finL o (acc ++ (match r with | some y => y :: ys | none => ys)) M2)) Q (fun c d H' => W c d σ H') := by
          revert po'
          cases evTs P ifs ς2 M' <;> exact fun h => h
        refine ⟨ρ', ς2, M', ⟨hs2, rm2⟩, (Post.bindB g2 po2).imp (fun b H3 ⟨b', M3, ρ3, g3, eb, rm3, po3⟩ => ?_) fun _ _ _ z => z⟩
        subst eb
        have g13 := g2.trans g3
        have hD3 : H3 D = some (.lst ws) := g3.st D _ hD2 (.inl nD)
        have nD3 : D ∉ ρ3 := by
          obtain ⟨t, rfl, ht⟩ := g3.ad
          intro hm
          rcases List.mem_append.mp hm with z | z
          · exact nD z
          · rw [ht D z] at hD2; cases hD2
        have ra3 := (ra.mono gy).mono g3
        cases b' with
        | false =>
          rw [if_neg (by decide)] at po3
          rw [if_neg (by decide)]
          exact ⟨ρ3, M3, acc, ws, g13, nD3, hD3, ra3, rm3, po3⟩
        | true =>
          rw [if_pos rfl] at po3
          rw [if_pos rfl]
          rw [noExc_bind] at po3
          have po4 : Post X.K X.mg (Rep X.K) ρ1 H1 ((evE P elt ς2 M3).noExc.bind fun y M4 => (lcL (lcF P vs elt tg ifs ς) (xs.drop (i + 1)) M4).noExc.bind fun ys M2 => finL o (acc ++ (y :: ys)) M2) Q (fun c d H' => W c d σ H') := by
            revert po3
            cases evE P elt ς2 M3 <;> exact fun h => h
          refine ⟨ρ3, ς2, M3, ⟨hs2.mono g3, rm3⟩, (Post.bindB g13 po4).imp (fun y H4 ⟨a, M4, ρ4, g4, r4, rm4, po5⟩ => ?_) fun _ _ _ z => z⟩
          have hD4 : H4 D = some (.lst ws) := g4.st D _ hD3 (.inl nD3)
          have nD4 : D ∉ ρ4 := by
            obtain ⟨t, rfl, ht⟩ := g4.ad
            intro hm
            rcases List.mem_append.mp hm with z | z
            · exact nD3 z
            · rw [ht D z] at hD3; cases hD3
          have ra4 := ra3.mono g4
          have po6 : Post X.K X.mg (Rep X.K) ρ1 H1 ((lcL (lcF P vs elt tg ifs ς) (xs.drop (i + 1)) M4).noExc.bind fun ys M2 => finL o ((acc ++ [a]) ++ ys) M2) Q (fun c d H' => W c d σ H') := by
            simpa using po5
          have hz : acc.length < sizeLine := by
            revert po5
            cases lcL (lcF P vs elt tg ifs ς) (xs.drop (i + 1)) M4 with
            | ok ys M2 =>
              intro h
              have h' : Post X.K X.mg (Rep X.K) ρ1 H1 (finL o (acc ++ (a :: ys)) M2) Q (fun c d H' => W c d σ H') := h
              unfold finL at h'
              split at h'
              · rename_i hz
                simp at hz
                omega
              · exact False.elim h'
            | exc _ _ => exact fun h => False.elim h
            | stuck => exact fun h => False.elim h
          obtain ⟨m5, keep⟩ := rm4.other (u := .lst (ws ++ [y])) nD4 hD4 rfl
          have hl := ra4.length
          refine ⟨ws, hD4, by omega, ρ4, M4, acc ++ [a], ws ++ [y], ?_, nD4, upd_same, ?_, m5, po6⟩
          · have g14 := g13.trans g4
            exact ⟨g14.ad, fun b u hb hs => by
              rw [upd_ne (ne_of_none hb hD)]
              exact g14.st b u hb hs, fun b hb => by
              by_cases e : b = D
              · subst e; exact absurd hD hb
              · rw [upd_ne e]; exact g14.th b hb⟩
          · exact (fin_at.reps_map (fun r => keep r) ra4).append (.cons (keep r4) .nil)
  · have e : i = xs.length := by omega
    subst e
    refine .inl ⟨hstop, ?_⟩
    rw [List.drop_length] at po
    have po' : Post X.K X.mg (Rep X.K) ρ1 H1 (finL o acc M') Q (fun c d H' => W c d σ H') := by simpa [lcL] using po
    exact fin_at g hD hDw nD ra rm po'
where
  bindT_len {tg : Tg} {x : A} {ς ς' : Loc} (h : bindT tg x ς = some ς') : ς'.length = ς.length := by
    cases tg with
    | name i => cases h; simp
    | tup is =>
      cases x <;> simp [bindT] at h
      rename_i xs
      have : ∀ (is : List Nat) (xs : List A) (ς : Loc), setAll ς is xs = some ς' → ς'.length = ς.length := by
        intro is
        induction is with
        | nil => intro xs ς e; cases xs <;> simp [setAll] at e; subst e; rfl
        | cons i is ih => intro xs ς e; cases xs <;> simp [setAll] at e; rw [ih _ _ e]; simp
      exact this _ _ _ h
/-- {} that nobody will change -/
theorem Inv.freezeD {pins : List (Addr × Obj)} {σ : L2.St} {H : Hp} {s : Shared} {p : Addr} (I : Inv X pins σ H s) (h : H p = some (.dK [])) : ∃ o, Inv X pins σ (upd H p (.frz o (.dK []))) s := by
  obtain ⟨z, hsys, vs, kv, ob, es, ep, e, hx, hd, hk, hp, hnd⟩ := I.hok p _ h
  refine ⟨ob, ?_⟩
  have np : ∀ {b : Addr} {u : HO}, H b = some u → (∀ ws, u ≠ .dK ws) → b ≠ p := fun {b u} hb hu q => by
    subst q
    rw [h] at hb
    cases hb
    exact hu _ rfl
  have un : Un X.fs [] H (upd H p (.frz ob (.dK []))) s.heap s.heap := by
    refine ⟨fun b o q _ _ _ => q, fun b o q _ _ _ => ⟨o.slots, q⟩, fun b o q n _ => ?_, fun b o q _ => ⟨o, q⟩, fun b xs q => ?_, fun b o u q => ?_, fun b ps q => ⟨#[], ?_⟩⟩
    · rw [upd_ne]
      · exact n
      · rintro rfl
        rw [h] at n
        cases n
    · rw [upd_ne (np q fun ws => by intro z; cases z)]; exact q
    · rw [upd_ne (np q fun ws => by intro z; cases z)]; exact q
    · rw [upd_ne (np q fun ws => by intro z; cases z)]; simpa using q
  have hok : HOk X.prog X.w (upd H p (.frz ob (.dK []))) s.heap := fun b u q => by
    by_cases hb : b = p
    · subst hb
      rw [upd_same] at q
      cases q
      exact ⟨e, z, hsys, vs, kv, ob, es, ep, e, hx, hd, hk, hp, hnd⟩
    · rw [upd_ne hb] at q
      refine (I.hok b u q).stay (fun _ _ _ q => q) (fun c q => ?_) fun c xs q => ?_
      · rw [upd_ne (np q fun ws => by intro z; cases z)]; exact q
      · rw [upd_ne (np q fun ws => by intro z; cases z)]; exact q
  exact I.un (h' := s.heap) (t' := s.toks) un hok
theorem pe_dnewA {pos : Pos} : PE X (.Dict [] [] pos) (LE X.K X.mg W (evE P .dnew)) := by
  refine ⟨fun pins s σ H Q I ⟨ρ, ς, M, at_, h⟩ => ?_⟩
  simp only [evE] at h
  refine thn ((pe_dnewK (X := X) (pos := pos)).run pins s σ H (fun v H1 => ∃ p, v = .ref p ∧ H p = none ∧ H1 = upd H p (.dK [])) I fun p hp => ⟨p, rfl, hp, rfl⟩) fun u s1 ⟨v, H1, I1, r, p, e, hp, e1⟩ => ?_
  subst e e1
  obtain ⟨o, I2⟩ := Inv.freezeD I1 upd_same
  refine ⟨.ref p, _, I2, r, ?_⟩
  have g : Grow ρ H ρ (upd (upd H p (.dK [])) p (.frz o (.dK []))) := Grow.laid2 hp
  exact h (.ref p) ρ _ g (.dct upd_same) (at_.m.laid2 hp)
end
end MP

/-! MP, part H: the theorem for expressions, statements, defs -/
namespace MP
open PySem PySem.Spec PyProof.Rows L2
section
variable {X : Cx} {P : Par}
theorem hasB_ok {I : Inf} {sc : Scope} {x : Str} (h : hasB I sc x = true) : glB sc x = true ∧ x ∈ I.bs ∧ okName x = true := by
  unfold hasB at h
  simp only [Bool.and_eq_true, decide_eq_true_eq] at h
  exact ⟨h.1.1, h.1.2, h.2⟩
theorem lcF_eq (P : Par) (vs : List Nat) (elt : E) (tg : Tg) (ifs : List E) (ς : Loc) : (fun (x : A) (M2 : Mem) => match bindT tg x (wipeA ς vs) with
      | some ς2 => (evTs P ifs ς2 M2).bind fun b M3 => if b = true then (evE P elt ς2 M3).bind fun y M4 => Out.ok (some y) M4 else .ok none M3
      | none => .stuck) = lcF P vs elt tg ifs ς := rfl
/-- a value as a test -/
theorem pt_ofV {k : Nat} {I : Inf} {W : WX} {e : Expr} {f : Loc → Mem → Out A} (h : PE X e (LE X.K X.mg W f)) (hp : plainT e = true) : PT X e (LT X.K X.mg W fun ς M => (f ς M).bind fun x M1 => outT (truA x M1) M1) := by
  refine pt_w (pt_truth h (plainT_ok hp)) fun σ H Q ⟨ρ, ς, M, at_, h⟩ => ?_
  refine ⟨ρ, ς, M, at_, le_bind at_ h fun x M1 ρ1 v H1 at1 g1 r1 h1 => ?_⟩
  cases e : truA x M1 with
  | none => rw [e] at h1; exact False.elim h1
  | some b => rw [e] at h1; exact ⟨b, truA_w at1.m r1 e, post_ok at1.m rfl h1⟩

def OkE (P : Par) (I : Inf) (m : E) : Prop := ∀ {X : Cx} {W : WX} {k : Nat} {sc : Scope}, Ctx X I P W k → Sub sc X → ∀ e, chkE I X.N sc m e = true → PE X e (LE X.K X.mg W (evE P m))
def OkEs (P : Par) (I : Inf) (ms : List E) : Prop := ∀ {X : Cx} {W : WX} {k : Nat} {sc : Scope}, Ctx X I P W k → Sub sc X → ∀ es, chkEs I X.N sc ms es = true → PA X es (LA X.K X.mg W (evEs P ms))
def OkT (P : Par) (I : Inf) (m : E) : Prop := ∀ {X : Cx} {W : WX} {k : Nat} {sc : Scope}, Ctx X I P W k → Sub sc X → ∀ e, chkE I X.N sc m e = true → PT X e (LT X.K X.mg W (evT P m))
def OkTs (P : Par) (I : Inf) (ms : List E) : Prop := ∀ {X : Cx} {W : WX} {k : Nat} {sc : Scope}, Ctx X I P W k → Sub sc X → ∀ es, chkEs I X.N sc ms es = true → PTs X es (LT X.K X.mg W (evTs P ms))
def OkO (P : Par) (I : Inf) (m : Option E) : Prop := ∀ {X : Cx} {W : WX} {k : Nat} {sc : Scope}, Ctx X I P W k → Sub sc X → ∀ e, chkO I X.N sc m e = true → PO X e (LO X.K X.mg W (evO P m))
def OkI (P : Par) (I : Inf) (m : It) : Prop := ∀ {X : Cx} {W : WX} {k : Nat} {sc : Scope}, Ctx X I P W k → Sub sc X → ∀ tg e, chkI I X.N sc m e = true → PI X tg e (LI X.K X.mg W (evI P m))
variable {I : Inf}
theorem pw_of_bool {op : BoolOp} {es : List Expr} {p : Pos} {t : TT} (h : PT X (.BoolOp op es p) t) : PW X (.BoolOp op es p) t := ⟨fun wh pins s σ H Q J q => h.run pins s σ H Q J q⟩
theorem forIn_false (M : Model) (A : Around) (E : Value → Shared → Prop) (env : Env) (Q : Bool → Shared → Prop) (s : Shared) (h : Q false s) : ∀ ifs : List Expr,
    wpAny M A (forIn ifs false fun c r => if r = true then do let ok ← isTrue c env (eval c env); pure (ForInStep.yield ok) else pure (ForInStep.yield r)) Q E s
  | [] => wpAny_pure h
  | c :: cs => by
    rw [List.forIn_cons]
    exact wpAny_bind (wpAny_pure (forIn_false M A E env Q s h cs))
theorem pts_consA {W : WX} {e : Expr} {es : List Expr} {f g : Loc → Mem → Out Bool} (h1 : PT X e (LT X.K X.mg W f)) (h2 : PTs X es (LT X.K X.mg W g)) : PTs X (e :: es) (LT X.K X.mg W fun ς M => (f ς M).bind fun t M1 => if t = true then g ς M1 else .ok false M1) := by
  refine ⟨fun pins s σ H Q J ⟨ρ, ς, M, at_, h⟩ => ?_⟩
  rw [List.forIn_cons]
  refine wpAny_bind ?_
  rw [if_pos rfl]
  refine wpAny_bind (thn (h1.run pins s σ H _ J ⟨ρ, ς, M, at_, le_bind at_ h (Q' := fun t H1 => if t = true then LT X.K X.mg W g σ H1 Q else Q false H1) fun t M1 ρ1 v H1 at1 g1 r1 h1 => ?_⟩) fun t s1 ⟨H1, J1, q1⟩ => wpAny_pure ?_)
  · have r1' : t = v := r1
    subst r1'
    cases t with
    | true => rw [if_pos rfl] at h1 ⊢; exact ⟨ρ1, ς, M1, at1, h1⟩
    | false => rw [if_neg (by decide)] at h1 ⊢; exact post_ok at1.m rfl h1
  · cases t with
    | true => exact h2.run pins s1 σ H1 Q J1 q1
    | false => exact forIn_false _ _ _ _ _ _ ⟨H1, J1, q1⟩ es
theorem okE_var (i : Nat)  : OkE P I (.var i) := by
  intro X W k sc C hs e h
  simp only [chkE] at h
  split at h
  · rename_i x pos
    simp only [Bool.and_eq_true, decide_eq_true_eq] at h
    have hn := okName_ok h.2
    refine pe_w (pe_var h.1.1 (hs.vis x h.1.2) hn.1 hn.2.1) fun σ H Q ⟨ρ, ς, M, at_, h⟩ => ?_
    simp only [evE] at h
    split at h
    · rename_i a ha
      obtain ⟨v, hv, r⟩ := at_.s.2 i a ha
      exact ⟨v, hv, post_ok at_.m r h⟩
    · exact False.elim h
  · exact Bool.noConfusion h
theorem okE_con (c : Const)  : OkE P I (.con c) := by
  intro X W k sc C hs e h
  simp only [chkE] at h
  split at h
  · rename_i c' j pos
    simp only [Bool.and_eq_true, decide_eq_true_eq] at h
    obtain ⟨rfl, h2⟩ := h
    have fin : ∀ {a v}, cA c = some a → (∀ ρ H, Rep X.K ρ H a v) → ∀ σ H Q, LE X.K X.mg W (evE P (.con c)) σ H Q → Q v H := fun {a v} ha r σ H Q ⟨ρ, ς, M, at_, h⟩ => by
      simp only [evE, ha] at h
      exact post_ok at_.m (r _ _) h
    cases c with
    | none => exact pe_w pe_non (fin rfl fun _ _ => .non)
    | bool b => exact pe_w pe_bl (fin rfl fun _ _ => .bl b)
    | int i => exact pe_w pe_int (fin rfl fun _ _ => .int i)
    | str s => exact pe_w pe_str (fin rfl fun _ _ => .str s)
    | _ => simp [cA] at h2
  · exact Bool.noConfusion h
theorem okE_glob (x : Str)  : OkE P I (.glob x) := by
  intro X W k sc C hs e h
  simp only [chkE] at h
  split at h
  · rename_i y pos
    simp only [Bool.and_eq_true, decide_eq_true_eq] at h
    obtain ⟨⟨rfl, h2⟩, h3⟩ := h
    cases hg : P.glob x with
    | none =>
      refine ⟨fun pins s σ H Q J h => ?_⟩
      obtain ⟨ρ, ς, M, at_, h⟩ := h
      simp only [evE, hg] at h
      exact False.elim h
    | some a =>
      obtain ⟨u, v, h4, h5, h6⟩ := C.gl x a hg
      refine pe_w (pe_glob (hs.gl x h2) h4 h5 (okName_ok h3).1) fun σ H Q ⟨ρ, ς, M, at_, h⟩ => ?_
      simp only [evE, hg] at h
      exact post_ok at_.m (h6 _ _) h
  · exact Bool.noConfusion h
theorem okE_tup (es : List E) (i_Es_es : OkEs P I es) : OkE P I (.tup es) := by
  intro X W k sc C hs e h
  simp only [chkE] at h
  split at h
  · rename_i xs j pos
    refine pe_w (pe_tup (i_Es_es C hs xs h)) fun σ H Q ⟨ρ, ς, M, at_, h⟩ => ?_
    simp only [evE] at h
    refine ⟨ρ, ς, M, at_, le_bind at_ h fun ys M1 ρ1 vs H1 at1 g1 r1 h1 => ?_⟩
    split at h1
    · rename_i hz
      refine ⟨by rw [← r1.length]; exact hz, fun p hp => ?_⟩
      have g : Grow ρ1 H1 ρ1 (upd H1 p (.tup vs)) := Grow.laid hp
      exact h1 (.ref p) ρ1 _ g (.tup (SqT.of upd_same) (r1.mono g)) (at1.m.laid hp)
    · exact False.elim h1
  · exact Bool.noConfusion h
theorem okE_lst (o : Bool) (es : List E) (i_Es_es : OkEs P I es) : OkE P I (.lst o es) := by
  intro X W k sc C hs e h
  simp only [chkE] at h
  split at h
  · rename_i xs pos
    refine pe_w (pe_fz (pe_lst (i_Es_es C hs xs h))) fun σ H Q ⟨ρ, ς, M, at_, h⟩ => ?_
    simp only [evE] at h
    refine ⟨ρ, ς, M, at_, le_bind at_ h fun ys M1 ρ1 vs H1 at1 g1 r1 h1 => ?_⟩
    exact fin_lst at1.m r1 h1
  · exact Bool.noConfusion h
theorem okE_bin (o : Bool) (op : Operator) (a b : E) (i_E_a : OkE P I a) (i_E_b : OkE P I b) : OkE P I (.bin o op a b) := by
  intro X W k sc C hs e h
  simp only [chkE] at h
  split at h
  · rename_i l op' r pos
    simp only [Bool.and_eq_true, decide_eq_true_eq] at h
    obtain ⟨⟨rfl, h1⟩, h2⟩ := h
    refine pe_w (pe_fz (pe_op (op_binA op) (i_E_a C hs l h1) (i_E_b C hs r h2))) fun σ H Q ⟨ρ, ς, M, at_, h⟩ => ?_
    simp only [evE] at h
    refine ⟨ρ, ς, M, at_, le_bind at_ h fun x M1 ρ1 v H1 at1 g1 r1 h1 => ?_⟩
    refine ⟨ρ1, ς, M1, at1, le_bind at1 h1 fun y M2 ρ2 u H2 at2 g2 r2 h2 => ?_⟩
    exact binA_w at2.m (r1.mono g2) r2 h2
  · exact Bool.noConfusion h
theorem okE_neg (a : E) (i_E_a : OkE P I a) : OkE P I (.neg a) := by
  intro X W k sc C hs e h
  simp only [chkE] at h
  split at h
  · rename_i x pos
    refine pe_w (pe_un un_neg (i_E_a C hs x h)) fun σ H Q ⟨ρ, ς, M, at_, h⟩ => ?_
    simp only [evE] at h
    refine ⟨ρ, ς, M, at_, le_bind at_ h fun x M1 ρ1 v H1 at1 g1 r1 h1 => ?_⟩
    cases r1 with
    | int i => exact ⟨i, rfl, post_ok at1.m (.int _) h1⟩
    | _ => exact False.elim h1
  · exact Bool.noConfusion h
theorem okE_cmp (op : CmpOp) (a b : E) (i_E_a : OkE P I a) (i_E_b : OkE P I b) : OkE P I (.cmp op a b) := by
  intro X W k sc C hs e h
  simp only [chkE] at h
  split at h
  · rename_i l op' r pos
    simp only [Bool.and_eq_true, decide_eq_true_eq] at h
    obtain ⟨⟨⟨rfl, h0⟩, h1⟩, h2⟩ := h
    refine pe_w (pe_cmpR (op_cmpA C.units65 op) (i_E_a C hs l h1) (i_E_b C hs r h2) (noMark_of op h0)) fun σ H Q ⟨ρ, ς, M, at_, h⟩ => ?_
    simp only [evE] at h
    refine ⟨ρ, ς, M, at_, le_bind at_ h fun x M1 ρ1 v H1 at1 g1 r1 h1 => ?_⟩
    refine ⟨ρ1, ς, M1, at1, le_bind at1 h1 fun y M2 ρ2 u H2 at2 g2 r2 h2 => ?_⟩
    obtain ⟨kk, e, q⟩ := post_outB at2.m h2
    exact cmpB_w at2.m (r1.mono g2) r2 e q
  · exact Bool.noConfusion h
theorem okE_chain (op op2 : CmpOp) (a b c : E) (i_E_a : OkE P I a) (i_E_b : OkE P I b) (i_E_c : OkE P I c) : OkE P I (.chain op op2 a b c) := by
  intro X W k sc C hs e h
  simp only [chkE] at h
  split at h
  · rename_i l o1 o2 m r pos
    simp only [Bool.and_eq_true, decide_eq_true_eq] at h
    obtain ⟨⟨⟨⟨⟨rfl, rfl⟩, h0⟩, h1⟩, h2⟩, h3⟩ := h
    refine pe_w (pe_chain (op_cmpA C.units65 op) (op_cmpA C.units65 op2) (i_E_a C hs l h1) (i_E_b C hs m h2) (i_E_c C hs r h3) (noMark_of op2 h0)) fun σ H Q ⟨ρ, ς, M, at_, h⟩ => ?_
    simp only [evE] at h
    refine ⟨ρ, ς, M, at_, le_bind at_ h fun x M1 ρ1 v H1 at1 g1 r1 h1 => ?_⟩
    refine ⟨ρ1, ς, M1, at1, le_bind at1 h1 fun y M2 ρ2 u H2 at2 g2 r2 h2 => ?_⟩
    split at h2
    · rename_i e1
      refine cmpB_w at2.m (r1.mono g2) r2 e1 ⟨true, rfl, ?_⟩
      rw [if_pos rfl]
      refine ⟨ρ2, ς, M2, at2, le_bind at2 h2 fun z M3 ρ3 w H3 at3 g3 r3 h3 => ?_⟩
      obtain ⟨kk, e2, q⟩ := post_outB at3.m h3
      exact cmpB_w at3.m (r2.mono g3) r3 e2 q
    · rename_i e1
      refine cmpB_w at2.m (r1.mono g2) r2 e1 ⟨false, rfl, ?_⟩
      rw [if_neg (by decide)]
      exact post_ok at2.m (.bl false) h2
    · exact False.elim h2
  · exact Bool.noConfusion h
theorem okE_and (a b : E) (i_E_b : OkE P I b) (i_E_a : OkE P I a) : OkE P I (.and a b) := by
  intro X W k sc C hs e h
  simp only [chkE] at h
  split at h
  · rename_i x y r p
    simp only [Bool.and_eq_true] at h
    have hb : PE X (.BoolOp .And (y :: r) p) (LE X.K X.mg W (evE P b)) := by
      cases r with
      | nil => exact pe_one (i_E_b C hs y h.2)
      | cons z r => exact i_E_b C hs _ h.2
    refine pe_w (pe_and (i_E_a C hs x h.1) hb) fun σ H Q ⟨ρ, ς, M, at_, h⟩ => ?_
    simp only [evE] at h
    refine ⟨ρ, ς, M, at_, le_bind at_ h fun x M1 ρ1 v H1 at1 g1 r1 h1 => ?_⟩
    cases r1 with
    | bl c =>
      cases c with
      | true => exact ⟨true, rfl, by rw [if_pos rfl]; exact ⟨ρ1, ς, M1, at1, h1⟩⟩
      | false => exact ⟨false, rfl, by rw [if_neg (by decide)]; exact post_ok at1.m (.bl false) h1⟩
    | _ => exact False.elim h1
  · exact Bool.noConfusion h
theorem okE_or (a b : E) (i_E_b : OkE P I b) (i_E_a : OkE P I a) : OkE P I (.or a b) := by
  intro X W k sc C hs e h
  simp only [chkE] at h
  split at h
  · rename_i x y r p
    simp only [Bool.and_eq_true] at h
    have hb : PE X (.BoolOp .Or (y :: r) p) (LE X.K X.mg W (evE P b)) := by
      cases r with
      | nil => exact pe_one (i_E_b C hs y h.2)
      | cons z r => exact i_E_b C hs _ h.2
    refine pe_w (pe_or (i_E_a C hs x h.1) hb) fun σ H Q ⟨ρ, ς, M, at_, h⟩ => ?_
    simp only [evE] at h
    refine ⟨ρ, ς, M, at_, le_bind at_ h fun x M1 ρ1 v H1 at1 g1 r1 h1 => ?_⟩
    cases r1 with
    | bl c =>
      cases c with
      | false => exact ⟨false, rfl, by rw [if_neg (by decide)]; exact ⟨ρ1, ς, M1, at1, h1⟩⟩
      | true => exact ⟨true, rfl, by rw [if_pos rfl]; exact post_ok at1.m (.bl true) h1⟩
    | _ => exact False.elim h1
  · exact Bool.noConfusion h
theorem okE_not (a : E) (i_E_a : OkE P I a) : OkE P I (.not a) := by
  intro X W k sc C hs e h
  simp only [chkE] at h
  split at h
  · rename_i x pos
    refine pe_w (pe_not (i_E_a C hs x h)) fun σ H Q ⟨ρ, ς, M, at_, h⟩ => ?_
    simp only [evE] at h
    refine ⟨ρ, ς, M, at_, le_bind at_ h fun x M1 ρ1 v H1 at1 g1 r1 h1 => ?_⟩
    cases r1 with
    | bl c => exact ⟨c, rfl, post_ok at1.m (.bl _) h1⟩
    | _ => exact False.elim h1
  · exact Bool.noConfusion h
theorem okE_ite (c a b : E) (i_T_c : OkT P I c) (i_E_a : OkE P I a) (i_E_b : OkE P I b) : OkE P I (.ite c a b) := by
  intro X W k sc C hs e h
  simp only [chkE] at h
  split at h
  · rename_i c' x y pos
    simp only [Bool.and_eq_true] at h
    refine pe_w (pe_ifExp (i_T_c C hs c' h.1.1) (i_E_a C hs x h.1.2) (i_E_b C hs y h.2)) fun σ H Q ⟨ρ, ς, M, at_, h⟩ => ?_
    simp only [evE] at h
    refine ⟨ρ, ς, M, at_, le_bind at_ h fun t M1 ρ1 v H1 at1 g1 r1 h1 => ?_⟩
    have r1' : t = v := r1
    subst r1'
    cases t with
    | true => rw [if_pos rfl] at h1 ⊢; exact ⟨ρ1, ς, M1, at1, h1⟩
    | false => rw [if_neg (by decide)] at h1 ⊢; exact ⟨ρ1, ς, M1, at1, h1⟩
  · exact Bool.noConfusion h
theorem okE_call (f : Str) (es : List E) (i_Es_es : OkEs P I es) : OkE P I (.call f es) := by
  intro X W k sc C hs e h
  simp only [chkE] at h
  split at h
  · rename_i g p xs pos
    simp only [Bool.and_eq_true, decide_eq_true_eq] at h
    obtain ⟨⟨⟨⟨rfl, h1⟩, h2⟩, h3⟩, h4⟩ := h
    have hg : Gl X f := hs.gl f h2
    cases xs with
    | nil =>
      cases es with
      | nil =>
        refine pe_w (pe_callG0 C h1 hg h3) fun σ H Q ⟨ρ, ς, M, at_, h⟩ => ?_
        simp only [evE, evEs, Out.bind_ok] at h
        exact ⟨ρ, M, at_.m, h⟩
      | cons _ _ => simp [chkEs] at h4
    | cons x xs =>
      refine pe_w (pe_callG C h1 hg h3 (chkEs_plain es _ h4) (i_Es_es C hs _ h4)) fun σ H Q ⟨ρ, ς, M, at_, h⟩ => ?_
      simp only [evE] at h
      exact ⟨ρ, ς, M, at_, le_bind at_ h fun ys M1 ρ1 vs H1 at1 g1 r1 h1 => ⟨ρ1, M1, ys, r1, at1.m, h1⟩⟩
  · exact Bool.noConfusion h
theorem okE_blt (o : Bool) (f : B) (es : List E) (i_Es_es : OkEs P I es) : OkE P I (.blt o f es) := by
  intro X W k sc C hs e h
  simp only [chkE] at h
  split at h
  · rename_i g p x xs pos
    simp only [Bool.and_eq_true, decide_eq_true_eq] at h
    obtain ⟨⟨rfl, h1⟩, h2⟩ := h
    obtain ⟨b1, b2, b3⟩ := hasB_ok h1
    have hn := okName_ok b3
    have hp := chkEs_plain es _ h2
    rw [List.all_cons, Bool.and_eq_true] at hp
    have hpe : PE X (.Call (.Name (Str.ofString f.nm) p) (x :: xs) [] pos) (tCB (rBlt f X.K) (LA X.K X.mg W (evEs P es))) := by
      have hc := call_blt (X := X) C.calm C.gd C.units f
      have hb := boot_blt f
      have ha := i_Es_es C hs _ h2
      cases f with
      | int => exact pe_callTy hc (hs.gl _ b1) (C.bl _ b2) hb ha hn.2.2 hn.1 (star_plain hp.1) (starAny xs _ pos hp.2)
      | list => exact pe_callTy hc (hs.gl _ b1) (C.bl _ b2) hb ha hn.2.2 hn.1 (star_plain hp.1) (starAny xs _ pos hp.2)
      | tuple => exact pe_callTy hc (hs.gl _ b1) (C.bl _ b2) hb ha hn.2.2 hn.1 (star_plain hp.1) (starAny xs _ pos hp.2)
      | _ => exact pe_callB hc (hs.gl _ b1) (C.bl _ b2) hb ha hn.2.2 hn.1 (star_plain hp.1) (starAny xs _ pos hp.2)
    refine pe_w (pe_fz hpe) fun σ H Q ⟨ρ, ς, M, at_, h⟩ => ?_
    simp only [evE] at h
    exact ⟨ρ, ς, M, at_, le_bind at_ h fun ys M1 ρ1 vs H1 at1 g1 r1 h1 => bltA_w at1.m r1 h1⟩
  · exact Bool.noConfusion h
theorem okE_isi (a : E) (c : Ty) (i_E_a : OkE P I a) : OkE P I (.isi a c) := by
  intro X W k sc C hs e h
  simp only [chkE] at h
  split at h
  · rename_i g p x d p2 pos
    simp only [Bool.and_eq_true, decide_eq_true_eq] at h
    obtain ⟨⟨⟨⟨⟨⟨rfl, h1⟩, rfl⟩, h2⟩, h3⟩, h4⟩, h5⟩ := h
    obtain ⟨b1, b2, b3⟩ := hasB_ok h1
    obtain ⟨c1, c2, c3⟩ := hasB_ok h2
    have hn := okName_ok b3
    have hn2 := okName_ok c3
    have hd : PE X (.Name (Str.ofString c.nm) p2) (tC (.ty c.nm)) := pe_bltn (hs.gl _ c1) (C.bl _ c2) (boot_ty c h3) rfl hn2.2.2 hn2.1
    refine pe_w (pe_callB call_isi (hs.gl _ b1) (C.bl _ b2) (by decide +kernel) (pa_cons (i_E_a C hs x h5) (pa_cons hd pa_nil) (star_plain h4)) hn.2.2 hn.1 (star_plain h4) (by rfl)) fun σ H Q ⟨ρ, ς, M, at_, h⟩ => ?_
    simp only [evE] at h
    exact ⟨ρ, ς, M, at_, le_bind at_ h fun y M1 ρ1 v H1 at1 g1 r1 h1 => isi_w h3 at1.m r1 h1⟩
  · exact Bool.noConfusion h
theorem okE_idx (a i : E) (i_E_a : OkE P I a) (i_E_i : OkE P I i) : OkE P I (.idx a i) := by
  intro X W k sc C hs e h
  simp only [chkE] at h
  split at h
  · rename_i x y pos
    simp only [Bool.and_eq_true] at h
    refine pe_w (pe_ix ix_seq (i_E_a C hs x h.1.2) (i_E_i C hs y h.2) (plainIx_of h.1.1)) fun σ H Q ⟨ρ, ς, M, at_, h⟩ => ?_
    simp only [evE] at h
    refine ⟨ρ, ς, M, at_, le_bind at_ h fun x M1 ρ1 v H1 at1 g1 r1 h1 => ?_⟩
    refine ⟨ρ1, ς, M1, at1, le_bind at1 h1 fun y M2 ρ2 u H2 at2 g2 r2 h2 => ?_⟩
    exact idxA_w at2.m (r1.mono g2) r2 h2
  · exact Bool.noConfusion h
theorem okE_slice (o : Bool) (a : E) (lo hi : Option E) (i_E_a : OkE P I a) (i_O_lo : OkO P I lo) (i_O_hi : OkO P I hi) : OkE P I (.slice o a lo hi) := by
  intro X W k sc C hs e h
  simp only [chkE] at h
  split at h
  · rename_i x l u p2 pos
    simp only [Bool.and_eq_true] at h
    refine pe_w (pe_fz (pe_slice sl_X (i_E_a C hs x h.1.1) (i_O_lo C hs l h.1.2) (i_O_hi C hs u h.2))) fun σ H Q ⟨ρ, ς, M, at_, h⟩ => ?_
    simp only [evE] at h
    refine ⟨ρ, ς, M, at_, le_bind at_ h fun x M1 ρ1 v H1 at1 g1 r1 h1 => ?_⟩
    refine ⟨ρ1, ς, M1, at1, le_bind at1 h1 fun l M2 ρ2 l' H2 at2 g2 r2 h2 => ?_⟩
    refine ⟨ρ2, ς, M2, at2, le_bind at2 h2 fun u M3 ρ3 u' H3 at3 g3 r3 h3 => ?_⟩
    have r2' : l = l' := r2
    have r3' : u = u' := r3
    subst r2' r3'
    exact sliceA_w at3.m ((r1.mono g2).mono g3) h3
  · exact Bool.noConfusion h
theorem okE_lc (o : Bool) (vs : List Nat) (elt : E) (tg : Tg) (it : It) (ifs : List E) (i_I_it : OkI P I it) (i_Ts_ifs : OkTs P I ifs) (i_E_elt : OkE P I elt) : OkE P I (.lc o vs elt tg it ifs) := by
  intro X W k sc C hs e h
  simp only [chkE] at h
  split at h
  · rename_i x t i fs scope pos
    simp only [Bool.and_eq_true, List.all_eq_true, decide_eq_true_eq] at h
    obtain ⟨⟨⟨⟨⟨⟨h1, h2⟩, h3⟩, h4⟩, h5⟩, h6⟩, h7⟩ := h
    have ok : BlkOk X.N X.env.scope scope (ownOf X.N vs) := hs.blkC h3
    have hi := i_I_it C hs t i h5
    have e2 : (ownOf X.N vs).map (·.2) = vs := by
      unfold ownOf
      rw [List.map_map]
      simp [Function.comp_def]
    have hg : ∀ (s : Shared) (H : Hp) (Ca : Addr) (cl : List (Str × Addr)) (fp : List Addr), PG (X.blk s H scope (compEnvC scope cl Ca X.env) fp) t (LG X.K tg) := fun s H Ca cl fp => tg_ok (Sub.blk scope s H Ca cl fp) C.calm C.nd tg t h4
    have ht : ∀ (s : Shared) (H : Hp) (Ca : Addr) (cl : List (Str × Addr)) (fp : List Addr), PTs (X.blk s H scope (compEnvC scope cl Ca X.env) fp) fs (LT X.K X.mg WX0 (evTs P ifs)) := fun s H Ca cl fp => i_Ts_ifs (C.blk s H scope _ fp) (Sub.blk scope s H Ca cl fp) fs h6
    have he : ∀ (s : Shared) (H : Hp) (Ca : Addr) (cl : List (Str × Addr)) (fp : List Addr), PE (X.blk s H scope (compEnvC scope cl Ca X.env) fp) x (LE X.K X.mg WX0 (evE P elt)) := fun s H Ca cl fp => i_E_elt (C.blk s H scope _ fp) (Sub.blk scope s H Ca cl fp) x h7
    have pe := pe_lc (pos := pos) C.calm C.nd hi ok hg ht he (noFold_of h1)
    rw [e2] at pe
    refine pe_w (pe_fz pe) fun σ H Q hq => ?_
    refine pe_lcA (o := o) C hs h1 h2 ok hi hg ht he σ H Q ?_
    obtain ⟨ρ, ς, M, at_, hq⟩ := hq
    simp only [evE] at hq
    exact ⟨ρ, ς, M, at_, hq⟩
  · exact Bool.noConfusion h
theorem okE_meth (m : Mth) (a : E) (es : List E) (i_E_a : OkE P I a) (i_Es_es : OkEs P I es) : OkE P I (.meth m a es) := by
  intro X W k sc C hs e h
  simp only [chkE] at h
  split at h
  · rename_i o n ap x xs cp
    simp only [Bool.and_eq_true, decide_eq_true_eq] at h
    obtain ⟨⟨⟨⟨⟨rfl, h1⟩, h2⟩, h3⟩, h4⟩, h5⟩ := h
    have hp := chkEs_plain es _ h5
    have hp' := hp
    rw [List.all_cons, Bool.and_eq_true] at hp
    cases m with
    | append =>
      refine pe_w (pe_bm (T := "list") PySem.F.plainAttrs_list PySem.F.slot_list_append PySem.F.type_list_append mt_append (i_E_a C hs o h4) (i_Es_es C hs _ h5) (base_name h1) ?_ h2 (star_plain hp.1) (starAny xs _ cp hp.2)) fun σ H Q ⟨ρ, ς, M, at_, h⟩ => ?_
      · rw [starAll _ _ _ hp']
        simp [keywordEach, backToKw]
        omega
      · simp only [evE] at h
        refine ⟨ρ, ς, M, at_, le_bind at_ h fun y M1 ρ1 v H1 at1 g1 r1 h1 => ?_⟩
        split at h1
        · rename_i hr
          have hl : tyV X.K "list" v H1 := by
            cases e2 : asL M1 y with
            | none => simp [recvOk, e2] at hr
            | some ys =>
              obtain ⟨p, vs, rfl, s, _⟩ := Rep.asL at1.m r1 e2
              exact .inl ⟨rfl, vs, s.sq⟩
          refine ⟨hl, ρ1, ς, M1, at1, le_bind at1 h1 fun ys M2 ρ2 vs H2 at2 g2 r2 h2 => ?_⟩
          exact (appA_w at2.m (r1.mono g2) r2 h2).2
        · exact False.elim h1
  · exact Bool.noConfusion h
theorem okE_frzv (a : E) (i_E_a : OkE P I a) : OkE P I (.frzv a) := by
  intro X W k sc C hs e h
  simp only [chkE, Bool.and_eq_true] at h
  refine pe_w (pe_fz (i_E_a C hs e h.2)) fun σ H Q ⟨ρ, ς, M, at_, h⟩ => ?_
  simp only [evE] at h
  exact ⟨ρ, ς, M, at_, le_bind at_ h fun y M1 ρ1 v H1 at1 g1 r1 h1 => frzA_w at1.m r1 h1⟩
theorem okEs_nil   : OkEs P I [] := by
  intro X W k sc C hs es h
  cases es with
  | nil =>
    refine pa_w pa_nil fun σ H Q ⟨ρ, ς, M, at_, h⟩ => ?_
    simp only [evEs] at h
    exact post_ok at_.m .nil h
  | cons _ _ => simp [chkEs] at h
theorem okEs_cons (m : E) (ms : List E) (i_E_m : OkE P I m) (i_Es_ms : OkEs P I ms) : OkEs P I (m :: ms) := by
  intro X W k sc C hs es h
  cases es with
  | nil => simp [chkEs] at h
  | cons e es =>
    simp only [chkEs, Bool.and_eq_true] at h
    refine pa_w (pa_cons (i_E_m C hs e h.1.2) (i_Es_ms C hs es h.2) (star_plain h.1.1)) fun σ H Q ⟨ρ, ς, M, at_, h⟩ => ?_
    simp only [evEs] at h
    refine ⟨ρ, ς, M, at_, le_bind at_ h fun x M1 ρ1 v H1 at1 g1 r1 h1 => ?_⟩
    refine ⟨ρ1, ς, M1, at1, le_bind at1 h1 fun xs M2 ρ2 vs H2 at2 g2 r2 h2 => ?_⟩
    exact post_ok at2.m (.cons (r1.mono g2) r2) h2
theorem okT_and (a b : E) (i_T_b : OkT P I b) (i_T_a : OkT P I a) : OkT P I (.and a b) := by
  intro X W k sc C hs e h
  simp only [chkE] at h
  split at h
  · rename_i x y r p
    simp only [Bool.and_eq_true] at h
    have hb : PW X (.BoolOp .And (y :: r) p) (LT X.K X.mg W (evT P b)) := by
      cases r with
      | nil => exact pw_and1 (i_T_b C hs y h.2)
      | cons z r => exact pw_of_bool (i_T_b C hs _ h.2)
    refine pt_w (PW.pt (pw_and (i_T_a C hs x h.1) hb)) fun σ H Q ⟨ρ, ς, M, at_, h⟩ => ?_
    simp only [evT] at h
    refine ⟨ρ, ς, M, at_, le_bind at_ h fun t M1 ρ1 v H1 at1 g1 r1 h1 => ?_⟩
    have r1' : t = v := r1
    subst r1'
    cases t with
    | true => rw [if_pos rfl] at h1 ⊢; exact ⟨ρ1, ς, M1, at1, h1⟩
    | false => rw [if_neg (by decide)] at h1 ⊢; exact post_ok at1.m rfl h1
  · exact Bool.noConfusion h
theorem okT_or (a b : E) (i_T_b : OkT P I b) (i_T_a : OkT P I a) : OkT P I (.or a b) := by
  intro X W k sc C hs e h
  simp only [chkE] at h
  split at h
  · rename_i x y r p
    simp only [Bool.and_eq_true] at h
    have hb : PW X (.BoolOp .Or (y :: r) p) (LT X.K X.mg W (evT P b)) := by
      cases r with
      | nil => exact pw_or1 (i_T_b C hs y h.2)
      | cons z r => exact pw_of_bool (i_T_b C hs _ h.2)
    refine pt_w (PW.pt (pw_or (i_T_a C hs x h.1) hb)) fun σ H Q ⟨ρ, ς, M, at_, h⟩ => ?_
    simp only [evT] at h
    refine ⟨ρ, ς, M, at_, le_bind at_ h fun t M1 ρ1 v H1 at1 g1 r1 h1 => ?_⟩
    have r1' : t = v := r1
    subst r1'
    cases t with
    | true => rw [if_pos rfl] at h1 ⊢; exact post_ok at1.m rfl h1
    | false => rw [if_neg (by decide)] at h1 ⊢; exact ⟨ρ1, ς, M1, at1, h1⟩
  · exact Bool.noConfusion h
theorem okT_not (a : E) (i_T_a : OkT P I a) : OkT P I (.not a) := by
  intro X W k sc C hs e h
  simp only [chkE] at h
  split at h
  · rename_i x pos
    refine pt_w (pt_not (i_T_a C hs x h)) fun σ H Q ⟨ρ, ς, M, at_, h⟩ => ?_
    simp only [evT] at h
    refine ⟨ρ, ς, M, at_, le_bind at_ h fun t M1 ρ1 v H1 at1 g1 r1 h1 => ?_⟩
    have r1' : t = v := r1
    subst r1'
    exact post_ok at1.m rfl h1
  · exact Bool.noConfusion h
theorem okT_ite (c a b : E) (i_T_c : OkT P I c) (i_T_a : OkT P I a) (i_T_b : OkT P I b) : OkT P I (.ite c a b) := by
  intro X W k sc C hs e h
  simp only [chkE] at h
  split at h
  · rename_i c' x y pos
    simp only [Bool.and_eq_true] at h
    have hc := i_T_c C hs c' h.1.1
    have ha := i_T_a C hs x h.1.2
    have hb := i_T_b C hs y h.2
    refine ⟨fun pins s σ H Q J hq => ?_⟩
    obtain ⟨ρ, ς, M, at_, hq⟩ := hq
    simp only [evT] at hq
    show wpAny _ _ (do if ← isTrue c' X.env (eval c' X.env) then isTrue x X.env (eval x X.env) else isTrue y X.env (eval y X.env)) _ _ s
    refine wpAny_bind (thn (hc.run pins s σ H _ J ⟨ρ, ς, M, at_, le_bind at_ hq (Q' := fun t H1 => if t = true then LT X.K X.mg W (evT P a) σ H1 Q else LT X.K X.mg W (evT P b) σ H1 Q) fun t M1 ρ1 v H1 at1 g1 r1 h1 => ?_⟩) fun t s1 ⟨H1, J1, q1⟩ => ?_)
    · have r1' : t = v := r1
      subst r1'
      cases t with
      | true => rw [if_pos rfl] at h1 ⊢; exact ⟨ρ1, ς, M1, at1, h1⟩
      | false => rw [if_neg (by decide)] at h1 ⊢; exact ⟨ρ1, ς, M1, at1, h1⟩
    · cases t with
      | true => exact ha.run pins s1 σ H1 Q J1 q1
      | false => exact hb.run pins s1 σ H1 Q J1 q1
  · exact Bool.noConfusion h
theorem okT_cmp (op : CmpOp) (a b : E) (i_E_a : OkE P I a) (i_E_b : OkE P I b) : OkT P I (.cmp op a b) := by
  intro X W k sc C hs e h
  simp only [chkE] at h
  split at h
  · rename_i l op' r pos
    simp only [Bool.and_eq_true, decide_eq_true_eq] at h
    obtain ⟨⟨⟨rfl, h0⟩, h1⟩, h2⟩ := h
    refine pt_w (pt_cmpR (op_cmpA C.units65 op) (i_E_a C hs l h1) (i_E_b C hs r h2) (noMark_of op h0)) fun σ H Q ⟨ρ, ς, M, at_, h⟩ => ?_
    simp only [evT] at h
    refine ⟨ρ, ς, M, at_, le_bind at_ h fun x M1 ρ1 v H1 at1 g1 r1 h1 => ?_⟩
    refine ⟨ρ1, ς, M1, at1, le_bind at1 h1 fun y M2 ρ2 u H2 at2 g2 r2 h2 => ?_⟩
    cases e : cmpB op x y M2 with
    | none => rw [e] at h2; exact False.elim h2
    | some kk =>
      rw [e] at h2
      exact cmpB_w at2.m (r1.mono g2) r2 e ⟨kk, rfl, post_ok at2.m rfl h2⟩
  · exact Bool.noConfusion h
theorem okT_chain (op op2 : CmpOp) (a b c : E) (i_E_a : OkE P I a) (i_E_b : OkE P I b) (i_E_c : OkE P I c) : OkT P I (.chain op op2 a b c) := by
  intro X W k sc C hs e h
  simp only [chkE] at h
  split at h
  · rename_i l o1 o2 m r pos
    simp only [Bool.and_eq_true, decide_eq_true_eq] at h
    obtain ⟨⟨⟨⟨⟨rfl, rfl⟩, h0⟩, h1⟩, h2⟩, h3⟩ := h
    refine pt_w (pt_chain (op_cmpA C.units65 op) (op_cmpA C.units65 op2) (i_E_a C hs l h1) (i_E_b C hs m h2) (i_E_c C hs r h3) (noMark_of op2 h0)) fun σ H Q ⟨ρ, ς, M, at_, h⟩ => ?_
    simp only [evT] at h
    refine ⟨ρ, ς, M, at_, le_bind at_ h fun x M1 ρ1 v H1 at1 g1 r1 h1 => ?_⟩
    refine ⟨ρ1, ς, M1, at1, le_bind at1 h1 fun y M2 ρ2 u H2 at2 g2 r2 h2 => ?_⟩
    split at h2
    · rename_i e1
      refine cmpB_w at2.m (r1.mono g2) r2 e1 ⟨true, rfl, ?_⟩
      rw [if_pos rfl]
      refine ⟨ρ2, ς, M2, at2, le_bind at2 h2 fun z M3 ρ3 w H3 at3 g3 r3 h3 => ?_⟩
      cases e2 : cmpB op2 y z M3 with
      | none => rw [e2] at h3; exact False.elim h3
      | some kk =>
        rw [e2] at h3
        exact cmpB_w at3.m (r2.mono g3) r3 e2 ⟨kk, rfl, post_ok at3.m rfl h3⟩
    · rename_i e1
      refine cmpB_w at2.m (r1.mono g2) r2 e1 ⟨false, rfl, ?_⟩
      rw [if_neg (by decide)]
      exact ⟨false, rfl, post_ok at2.m rfl h2⟩
    · exact False.elim h2
  · exact Bool.noConfusion h
theorem okT_var (i : Nat) (i_E : OkE P I (.var i)) : OkT P I (.var i) := by
  intro X W k sc C hs e h
  have hp : plainT e = true := by
    simp only [chkE] at h
    split at h <;> first | rfl | exact Bool.noConfusion h
  have e2 : evT P (.var i) = fun ς M => (evE P (.var i) ς M).bind fun x M1 => outT (truA x M1) M1 := by
    funext ς M
    simp only [evT]
  rw [e2]
  exact pt_ofV (k := 0) (I := I) (i_E C hs e h) hp
theorem okT_con (c : Const) (i_E : OkE P I (.con c)) : OkT P I (.con c) := by
  intro X W k sc C hs e h
  have hp : plainT e = true := by
    simp only [chkE] at h
    split at h <;> first | rfl | exact Bool.noConfusion h
  have e2 : evT P (.con c) = fun ς M => (evE P (.con c) ς M).bind fun x M1 => outT (truA x M1) M1 := by
    funext ς M
    simp only [evT]
  rw [e2]
  exact pt_ofV (k := 0) (I := I) (i_E C hs e h) hp
theorem okT_glob (x : Str) (i_E : OkE P I (.glob x)) : OkT P I (.glob x) := by
  intro X W k sc C hs e h
  have hp : plainT e = true := by
    simp only [chkE] at h
    split at h <;> first | rfl | exact Bool.noConfusion h
  have e2 : evT P (.glob x) = fun ς M => (evE P (.glob x) ς M).bind fun x M1 => outT (truA x M1) M1 := by
    funext ς M
    simp only [evT]
  rw [e2]
  exact pt_ofV (k := 0) (I := I) (i_E C hs e h) hp
theorem okT_tup (es : List E) (i_E : OkE P I (.tup es)) : OkT P I (.tup es) := by
  intro X W k sc C hs e h
  have hp : plainT e = true := by
    simp only [chkE] at h
    split at h <;> first | rfl | exact Bool.noConfusion h
  have e2 : evT P (.tup es) = fun ς M => (evE P (.tup es) ς M).bind fun x M1 => outT (truA x M1) M1 := by
    funext ς M
    simp only [evT]
  rw [e2]
  exact pt_ofV (k := 0) (I := I) (i_E C hs e h) hp
theorem okT_lst (o : Bool) (es : List E) (i_E : OkE P I (.lst o es)) : OkT P I (.lst o es) := by
  intro X W k sc C hs e h
  have hp : plainT e = true := by
    simp only [chkE] at h
    split at h <;> first | rfl | exact Bool.noConfusion h
  have e2 : evT P (.lst o es) = fun ς M => (evE P (.lst o es) ς M).bind fun x M1 => outT (truA x M1) M1 := by
    funext ς M
    simp only [evT]
  rw [e2]
  exact pt_ofV (k := 0) (I := I) (i_E C hs e h) hp
theorem okT_bin (o : Bool) (op : Operator) (a b : E) (i_E : OkE P I (.bin o op a b)) : OkT P I (.bin o op a b) := by
  intro X W k sc C hs e h
  have hp : plainT e = true := by
    simp only [chkE] at h
    split at h <;> first | rfl | exact Bool.noConfusion h
  have e2 : evT P (.bin o op a b) = fun ς M => (evE P (.bin o op a b) ς M).bind fun x M1 => outT (truA x M1) M1 := by
    funext ς M
    simp only [evT]
  rw [e2]
  exact pt_ofV (k := 0) (I := I) (i_E C hs e h) hp
theorem okT_neg (a : E) (i_E : OkE P I (.neg a)) : OkT P I (.neg a) := by
  intro X W k sc C hs e h
  have hp : plainT e = true := by
    simp only [chkE] at h
    split at h <;> first | rfl | exact Bool.noConfusion h
  have e2 : evT P (.neg a) = fun ς M => (evE P (.neg a) ς M).bind fun x M1 => outT (truA x M1) M1 := by
    funext ς M
    simp only [evT]
  rw [e2]
  exact pt_ofV (k := 0) (I := I) (i_E C hs e h) hp
theorem okT_call (f : Str) (es : List E) (i_E : OkE P I (.call f es)) : OkT P I (.call f es) := by
  intro X W k sc C hs e h
  have hp : plainT e = true := by
    simp only [chkE] at h
    split at h <;> first | rfl | exact Bool.noConfusion h
  have e2 : evT P (.call f es) = fun ς M => (evE P (.call f es) ς M).bind fun x M1 => outT (truA x M1) M1 := by
    funext ς M
    simp only [evT]
  rw [e2]
  exact pt_ofV (k := 0) (I := I) (i_E C hs e h) hp
theorem okT_blt (o : Bool) (f : B) (es : List E) (i_E : OkE P I (.blt o f es)) : OkT P I (.blt o f es) := by
  intro X W k sc C hs e h
  have hp : plainT e = true := by
    simp only [chkE] at h
    split at h <;> first | rfl | exact Bool.noConfusion h
  have e2 : evT P (.blt o f es) = fun ς M => (evE P (.blt o f es) ς M).bind fun x M1 => outT (truA x M1) M1 := by
    funext ς M
    simp only [evT]
  rw [e2]
  exact pt_ofV (k := 0) (I := I) (i_E C hs e h) hp
theorem okT_isi (a : E) (c : Ty) (i_E : OkE P I (.isi a c)) : OkT P I (.isi a c) := by
  intro X W k sc C hs e h
  have hp : plainT e = true := by
    simp only [chkE] at h
    split at h <;> first | rfl | exact Bool.noConfusion h
  have e2 : evT P (.isi a c) = fun ς M => (evE P (.isi a c) ς M).bind fun x M1 => outT (truA x M1) M1 := by
    funext ς M
    simp only [evT]
  rw [e2]
  exact pt_ofV (k := 0) (I := I) (i_E C hs e h) hp
theorem okT_idx (a i : E) (i_E : OkE P I (.idx a i)) : OkT P I (.idx a i) := by
  intro X W k sc C hs e h
  have hp : plainT e = true := by
    simp only [chkE] at h
    split at h <;> first | rfl | exact Bool.noConfusion h
  have e2 : evT P (.idx a i) = fun ς M => (evE P (.idx a i) ς M).bind fun x M1 => outT (truA x M1) M1 := by
    funext ς M
    simp only [evT]
  rw [e2]
  exact pt_ofV (k := 0) (I := I) (i_E C hs e h) hp
theorem okT_slice (o : Bool) (a : E) (lo hi : Option E) (i_E : OkE P I (.slice o a lo hi)) : OkT P I (.slice o a lo hi) := by
  intro X W k sc C hs e h
  have hp : plainT e = true := by
    simp only [chkE] at h
    split at h <;> first | rfl | exact Bool.noConfusion h
  have e2 : evT P (.slice o a lo hi) = fun ς M => (evE P (.slice o a lo hi) ς M).bind fun x M1 => outT (truA x M1) M1 := by
    funext ς M
    simp only [evT]
  rw [e2]
  exact pt_ofV (k := 0) (I := I) (i_E C hs e h) hp
theorem okT_lc (o : Bool) (vs : List Nat) (elt : E) (tg : Tg) (it : It) (ifs : List E) (i_E : OkE P I (.lc o vs elt tg it ifs)) : OkT P I (.lc o vs elt tg it ifs) := by
  intro X W k sc C hs e h
  have hp : plainT e = true := by
    simp only [chkE] at h
    split at h <;> first | rfl | exact Bool.noConfusion h
  have e2 : evT P (.lc o vs elt tg it ifs) = fun ς M => (evE P (.lc o vs elt tg it ifs) ς M).bind fun x M1 => outT (truA x M1) M1 := by
    funext ς M
    simp only [evT]
  rw [e2]
  exact pt_ofV (k := 0) (I := I) (i_E C hs e h) hp
theorem okT_meth (m : Mth) (a : E) (es : List E) (i_E : OkE P I (.meth m a es)) : OkT P I (.meth m a es) := by
  intro X W k sc C hs e h
  have hp : plainT e = true := by
    simp only [chkE] at h
    split at h <;> first | rfl | exact Bool.noConfusion h
  have e2 : evT P (.meth m a es) = fun ς M => (evE P (.meth m a es) ς M).bind fun x M1 => outT (truA x M1) M1 := by
    funext ς M
    simp only [evT]
  rw [e2]
  exact pt_ofV (k := 0) (I := I) (i_E C hs e h) hp
theorem okT_frzv (a : E) (i_E : OkE P I (.frzv a)) : OkT P I (.frzv a) := by
  intro X W k sc C hs e h
  have hp : plainT e = true := by
    simp only [chkE, Bool.and_eq_true] at h
    exact h.1
  have e2 : evT P (.frzv a) = fun ς M => (evE P (.frzv a) ς M).bind fun x M1 => outT (truA x M1) M1 := by
    funext ς M
    simp only [evT]
  rw [e2]
  exact pt_ofV (k := 0) (I := I) (i_E C hs e h) hp
theorem okT_dnew (i_E : OkE P I .dnew) : OkT P I .dnew := by
  intro X W k sc C hs e h
  have hp : plainT e = true := by
    simp only [chkE] at h
    split at h
    · rfl
    · exact Bool.noConfusion h
  have e2 : evT P .dnew = fun ς M => (evE P .dnew ς M).bind fun x M1 => outT (truA x M1) M1 := by
    funext ς M
    simp only [evT]
  rw [e2]
  exact pt_ofV (k := 0) (I := I) (i_E C hs e h) hp
theorem okTs_nil   : OkTs P I [] := by
  intro X W k sc C hs es h
  cases es with
  | nil =>
    refine pts_w pts_nil fun σ H Q ⟨ρ, ς, M, at_, h⟩ => ?_
    simp only [evTs] at h
    exact post_ok at_.m rfl h
  | cons _ _ => simp [chkEs] at h
theorem okTs_cons (m : E) (ms : List E) (i_T_m : OkT P I m) (i_Ts_ms : OkTs P I ms) : OkTs P I (m :: ms) := by
  intro X W k sc C hs es h
  cases es with
  | nil => simp [chkEs] at h
  | cons e es =>
    simp only [chkEs, Bool.and_eq_true] at h
    have q : evTs P (m :: ms) = fun ς M => (evT P m ς M).bind fun t M1 => if t = true then evTs P ms ς M1 else .ok false M1 := by
      funext ς M
      simp only [evTs]
    rw [q]
    exact pts_consA (i_T_m C hs e h.1.2) (i_Ts_ms C hs es h.2)
theorem okO_none   : OkO P I none := by
  intro X W k sc C hs e h
  cases e with
  | none =>
    refine po_w po_none fun σ H Q ⟨ρ, ς, M, at_, h⟩ => ?_
    simp only [evO] at h
    exact post_ok at_.m rfl h
  | some _ => simp [chkO] at h
theorem okO_some (m : E) (i_E_m : OkE P I m) : OkO P I (some m) := by
  intro X W k sc C hs e h
  cases e with
  | none => simp [chkO] at h
  | some e =>
    simp only [chkO] at h
    refine po_w (po_some (i_E_m C hs e h)) fun σ H Q ⟨ρ, ς, M, at_, h⟩ => ?_
    simp only [evO] at h
    refine ⟨ρ, ς, M, at_, le_bind at_ h fun x M1 ρ1 v H1 at1 g1 r1 h1 => ?_⟩
    cases r1 with
    | int i => exact ⟨i, rfl, post_ok at1.m rfl h1⟩
    | _ => exact False.elim h1
theorem okI_over (m : E) (i_E_m : OkE P I m) : OkI P I (.over m) := by
  intro X W k sc C hs tg e h
  simp only [chkI] at h
  refine pi_w (pi_any (i_E_m C hs e h)) fun σ H Q ⟨ρ, ς, M, at_, h⟩ => ?_
  simp only [evI] at h
  refine ⟨ρ, ς, M, at_, le_bind at_ h fun x M1 ρ1 v H1 at1 g1 r1 h1 => ?_⟩
  cases r1 with
  | lst s r => exact .inl ⟨_, rfl, ⟨_, s.sq⟩, post_ok at1.m (it_lst s r) h1⟩
  | tup s r => exact .inr (.inl ⟨_, rfl, ⟨_, s⟩, post_ok at1.m (it_tup s r) h1⟩)
  | str z => exact .inr (.inr ⟨z, rfl, post_ok at1.m it_str h1⟩)
  | _ => exact False.elim h1
theorem okI_range1 (m : E) (i_E_m : OkE P I m) : OkI P I (.range1 m) := by
  intro X W k sc C hs tg e h
  simp only [chkI] at h
  split at h
  · rename_i g p x pos
    simp only [Bool.and_eq_true, decide_eq_true_eq] at h
    obtain ⟨⟨⟨rfl, h1⟩, h2⟩, h3⟩ := h
    obtain ⟨b1, b2, b3⟩ := hasB_ok h1
    refine pi_w (pi_range1 (hs.gl _ b1) (C.bl _ b2) (pa_cons (i_E_m C hs x h3) pa_nil (star_plain h2)) (star_plain h2)) fun σ H Q ⟨ρ, ς, M, at_, h⟩ => ?_
    simp only [evI] at h
    refine ⟨ρ, ς, M, at_, le_bind at_ h fun x M1 ρ1 v H1 at1 g1 r1 h1 => ?_⟩
    cases r1 with
    | int n =>
      simp only at h1
      split at h1
      · rename_i hz
        exact ⟨n, rfl, hz.1, hz.2, post_ok at1.m it_range h1⟩
      · exact False.elim h1
    | _ => exact False.elim h1
  · exact Bool.noConfusion h
theorem okE_dnew : OkE P I .dnew := by
  intro X W k sc C hs e h
  simp only [chkE] at h
  split at h
  · exact pe_dnewA
  · exact Bool.noConfusion h
theorem okAll (P : Par) (I : Inf) (m : E) : OkE P I m ∧ OkT P I m := by
  refine E.rec (motive_1 := fun m => OkE P I m ∧ OkT P I m) (motive_2 := fun m => OkI P I m) (motive_3 := fun ms => OkEs P I ms ∧ OkTs P I ms) (motive_4 := fun m => OkO P I m)
    ?var ?con ?glob ?tup ?lst ?bin ?neg ?cmp ?chain ?and ?or ?not ?ite ?call ?blt ?isi ?idx ?slice ?lc ?meth ?frzv ?dnew ?over ?range1 ?nil ?cons ?none ?some m
  case var => exact fun i => ⟨okE_var i, okT_var i (okE_var i)⟩
  case con => exact fun c => ⟨okE_con c, okT_con c (okE_con c)⟩
  case glob => exact fun x => ⟨okE_glob x, okT_glob x (okE_glob x)⟩
  case tup => exact fun es i => ⟨okE_tup es i.1, okT_tup es (okE_tup es i.1)⟩
  case lst => exact fun o es i => ⟨okE_lst o es i.1, okT_lst o es (okE_lst o es i.1)⟩
  case bin => exact fun o op a b i j => ⟨okE_bin o op a b i.1 j.1, okT_bin o op a b (okE_bin o op a b i.1 j.1)⟩
  case neg => exact fun a i => ⟨okE_neg a i.1, okT_neg a (okE_neg a i.1)⟩
  case cmp => exact fun op a b i j => ⟨okE_cmp op a b i.1 j.1, okT_cmp op a b i.1 j.1⟩
  case chain => exact fun op op2 a b c i j l => ⟨okE_chain op op2 a b c i.1 j.1 l.1, okT_chain op op2 a b c i.1 j.1 l.1⟩
  case and => exact fun a b i j => ⟨okE_and a b j.1 i.1, okT_and a b j.2 i.2⟩
  case or => exact fun a b i j => ⟨okE_or a b j.1 i.1, okT_or a b j.2 i.2⟩
  case not => exact fun a i => ⟨okE_not a i.1, okT_not a i.2⟩
  case ite => exact fun c a b i j l => ⟨okE_ite c a b i.2 j.1 l.1, okT_ite c a b i.2 j.2 l.2⟩
  case call => exact fun f es i => ⟨okE_call f es i.1, okT_call f es (okE_call f es i.1)⟩
  case blt => exact fun o f es i => ⟨okE_blt o f es i.1, okT_blt o f es (okE_blt o f es i.1)⟩
  case isi => exact fun a c i => ⟨okE_isi a c i.1, okT_isi a c (okE_isi a c i.1)⟩
  case idx => exact fun a b i j => ⟨okE_idx a b i.1 j.1, okT_idx a b (okE_idx a b i.1 j.1)⟩
  case slice => exact fun o a lo hi i j l => ⟨okE_slice o a lo hi i.1 j l, okT_slice o a lo hi (okE_slice o a lo hi i.1 j l)⟩
  case lc => exact fun o vs elt tg it ifs i j l => ⟨okE_lc o vs elt tg it ifs j l.2 i.1, okT_lc o vs elt tg it ifs (okE_lc o vs elt tg it ifs j l.2 i.1)⟩
  case meth => exact fun m a es i j => ⟨okE_meth m a es i.1 j.1, okT_meth m a es (okE_meth m a es i.1 j.1)⟩
  case frzv => exact fun a i => ⟨okE_frzv a i.1, okT_frzv a (okE_frzv a i.1)⟩
  case dnew => exact ⟨okE_dnew, okT_dnew okE_dnew⟩
  case over => exact fun e i => okI_over e i.1
  case range1 => exact fun e i => okI_range1 e i.1
  case nil => exact ⟨okEs_nil, okTs_nil⟩
  case cons => exact fun m ms i j => ⟨okEs_cons m ms i.1 j.1, okTs_cons m ms i.2 j.2⟩
  case none => exact okO_none
  case some => exact fun e i => okO_some e i.1
end
end MP

/-! MP, part I: the theorem for statements -/
namespace MP
open PySem PySem.Spec PyProof.Rows L2
/-- what is asked of the assigned value when it is a comprehension -/
def chkAsgLc (sc : Scope) (x : Str) (p : Pos) (v : Expr) : Bool := match v with
  | .ListComp _ _ scope pos => decide (sc.names.lookup x = some .local) && (p.line == pos.line) && !(scope.names.any fun (n, k) => n == x && (k == .local || k == .cell))
  | _ => false
def isLcM : E → Bool
  | .lc _ _ _ _ _ _ => true
  | _ => false
def notDisp : Expr → Bool
  | .Tuple _ _ _ => false
  | .List _ _ => false
  | _ => true
mutual
def chkS (I : Inf) (N : List Str) (sc : Scope) : S → Stmt → Bool
  | .asg i m, st => match st with
    | .Assign [.Name x p] v _ => decide (N[i]? = some x) && (decide (sc.names.lookup x = some .local) || decide (sc.names.lookup x = some .cell)) && chkE I N sc m v && (noComp v || (isLcM m && chkAsgLc sc x p v))
    | .AnnAssign (.Name x p) _ (some v) _ _ => decide (N[i]? = some x) && (decide (sc.names.lookup x = some .local) || decide (sc.names.lookup x = some .cell)) && chkE I N sc m v && noComp v
    | _ => false
  | .asgT tg m, st => match st with
    | .Assign [.Tuple es k p] v _ => chkTg N sc tg (.Tuple es k p) && notDisp v && noComp v && chkE I N sc m v
    | _ => false
  | .set a i m, st => match st with
    | .Assign [.Subscript o j _] v _ => noSlice j && chkE I N sc m v && chkE I N sc a o && chkE I N sc i j
    | .AnnAssign (.Subscript o j _) _ (some v) _ _ => noSlice j && chkE I N sc m v && chkE I N sc a o && chkE I N sc i j
    | _ => false
  | .expr m, st => match st with
    | .Expr v _ => noComp v && chkE I N sc m v
    | _ => false
  | .ret m, st => match st with
    | .Return (some v) _ => chkE I N sc m v
    | _ => false
  | .retN, st => match st with
    | .Return none _ => true
    | _ => false
  | .ife c a b, st => match st with
    | .If e x y _ => chkE I N sc c e && chkSs I N sc a x && chkSs I N sc b y
    | _ => false
  | .forS tg it body, st => match st with
    | .For t i b [] _ => noSet i && chkTg N sc tg t && chkI I N sc it i && chkSs I N sc body b
    | _ => false
  | .whl c body, st => match st with
    | .While e b [] _ => chkE I N sc c e && chkSs I N sc body b
    | _ => false
  | .brk, st => match st with
    | .Break _ => true
    | _ => false
  | .cnt, st => match st with
    | .Continue _ => true
    | _ => false
  | .pass, st => match st with
    | .Pass _ => true
    | .Expr (.Constant (.str _) _ _) _ => true
    | _ => false
def chkSs (I : Inf) (N : List Str) (sc : Scope) : List S → List Stmt → Bool
  | [], ss => match ss with
    | [] => true
    | _ => false
  | m :: ms, ss => match ss with
    | s :: ss => chkS I N sc m s && chkSs I N sc ms ss
    | [] => false
end

section
variable {K : PySem.W.Frag} {mg : Str → Option Value} {W : WX} {ρ ρ' : List Addr} {H H' : Hp} {o : Out (Fl × Loc)} {D D' : Ends}
theorem PostS.grow (g : Grow ρ H ρ' H') (h : PostS K mg W ρ H o D) : PostS K mg W ρ' H' o D := by
  cases o with
  | ok r M => exact fun ρ2 H2 g2 => h ρ2 H2 (g.trans g2)
  | exc x M => exact fun c d ρ2 H2 σ2 g2 => h c d ρ2 H2 σ2 (g.trans g2)
  | stuck => exact h
/-- a statement's expression first -/
theorem PostS.bindE {α β : Type} {R : List Addr → Hp → α → β → Prop} {p : Out α} {f : α → Mem → Out (Fl × Loc)} {σ : L2.St} (h : PostS K mg W ρ H (p.bind f) D) :
    Post K mg R ρ H p (fun v H1 => ∃ a M1 ρ1, Grow ρ H ρ1 H1 ∧ R ρ1 H1 a v ∧ RepM K ρ1 H1 M1 ∧ PostS K mg W ρ1 H1 (f a M1) D) fun c d H' => W c d σ H' := by
  cases p with
  | ok a M => exact fun v ρ1 H1 g r m => ⟨a, M, ρ1, g, r, m, PostS.grow g h⟩
  | exc x M => exact fun c d ρ1 H1 g e m => h c d ρ1 H1 σ g e m
  | stuck => exact h
theorem ls_bind {α β : Type} {R : List Addr → Hp → α → β → Prop} {p : Out α} {f : α → Mem → Out (Fl × Loc)} {ς : Loc} {σ : L2.St} {M : Mem} {Q' : β → Hp → Prop}
    (at_ : At K ρ H ς σ M) (h : PostS K mg W ρ H (p.bind f) D) (q : ∀ a M1 ρ1 v H1, At K ρ1 H1 ς σ M1 → Grow ρ H ρ1 H1 → R ρ1 H1 a v → PostS K mg W ρ1 H1 (f a M1) D → Q' v H1) : Post K mg R ρ H p Q' (fun c d H' => W c d σ H') :=
  (PostS.bindE (R := R) h).imp (fun v H1 ⟨a, M1, ρ1, g, r, m, p⟩ => q a M1 ρ1 v H1 ⟨at_.s.mono g, m⟩ g r p) fun _ _ _ z => z
theorem PostS.nx {ς : Loc} {σ : L2.St} {M : Mem} (at_ : At K ρ H ς σ M) (h : PostS K mg W ρ H (.ok (.nxt, ς) M) D) : D.nx σ H := h ρ H (Grow.refl _ _) σ at_
/-- one statement after the other -/
theorem PostS.seq {g : Loc → Mem → Out (Fl × Loc)} (h : PostS K mg W ρ H (o.bind fun r M1 => match r.1 with
    | .nxt => g r.2 M1
    | _ => .ok r M1) D) : PostS K mg W ρ H o { D with nx := LS K mg W g D } := by
  cases o with
  | ok r M =>
    obtain ⟨fl, ς⟩ := r
    cases fl with
    | nxt => exact fun ρ1 H1 g1 σ1 at1 => ⟨ρ1, ς, M, at1, PostS.grow g1 h⟩
    | brk => exact h
    | cnt => exact h
    | ret a => exact h
  | exc x M => exact h
  | stuck => exact h
end

/-- where statements run -/
structure SCtx (X : Cx) (I : Inf) (P : Par) (W : WX) (k : Nat) : Prop extends Ctx X I P W k where
  po : PassesOwn (model X.prog X.w) X.A X.env X.xe
  fT : ∀ x, X.fn x = true
  kind : X.env.scope.kind = .function
def OkS (P : Par) (I : Inf) (m : S) : Prop := ∀ {X : Cx} {W : WX} {k : Nat}, SCtx X I P W k → ∀ st, chkS I X.N X.env.scope m st = true → PS X st (LS X.K X.mg W (evS P m))
def OkSs (P : Par) (I : Inf) (ms : List S) : Prop := ∀ {X : Cx} {W : WX} {k : Nat}, SCtx X I P W k → ∀ st, chkSs I X.N X.env.scope ms st = true → PSs X st (LS X.K X.mg W (evSs P ms))
section
variable {X : Cx} {P : Par} {I : Inf}
theorem SCtx.sub {W : WX} {k : Nat} (C : SCtx X I P W k) : Sub X.env.scope X := Sub.same C.fT
theorem gl_ok {sc : Scope} {x : Str} (h : (decide (sc.names.lookup x = some .local) || decide (sc.names.lookup x = some .cell)) = true) : L2.Loc sc x := by
  rw [Bool.or_eq_true, decide_eq_true_eq, decide_eq_true_eq] at h
  exact h
theorem okI_all (P : Par) (I : Inf) (it : It) : OkI P I it := by
  cases it with
  | over e => exact okI_over e (okAll P I e).1
  | range1 e => exact okI_range1 e (okAll P I e).1
theorem okTs_all (P : Par) (I : Inf) : ∀ ms : List E, OkTs P I ms
  | [] => okTs_nil
  | m :: ms => okTs_cons m ms (okAll P I m).2 (okTs_all P I ms)
theorem sw_sub {o j v : Expr} {p : Pos} {l : Nat} {env : Env} : swapsWith v (some (.Subscript o j p)) l env = pure false := by cases v <;> rfl
theorem sw_tup {es : List Expr} {k : Nat} {v : Expr} {p : Pos} {l : Nat} {env : Env} (h : noComp v = true) : swapsWith v (some (.Tuple es k p)) l env = pure false := noComp_sw h _ _ _
theorem okS_asg (i : Nat) (m : E) : OkS P I (.asg i m) := by
  intro X W k C st h
  have h1 := @(okAll P I m).1
  have fin : ∀ {D : Ends} {σ : L2.St} {H : Hp}, LS X.K X.mg W (evS P (.asg i m)) D σ H → LE X.K X.mg W (evE P m) σ H fun v H1 => D.nx (σ.set i (some v)) H1 := by
    intro D σ H ⟨ρ, ς, M, at_, h⟩
    simp only [evS] at h
    refine ⟨ρ, ς, M, at_, ls_bind at_ h fun a M1 ρ1 v H1 at1 g1 r1 h1 => ?_⟩
    exact PostS.nx ⟨at1.s.set r1, at1.m⟩ h1
  simp only [chkS] at h
  split at h
  · rename_i x p v pos
    simp only [Bool.and_eq_true, decide_eq_true_eq] at h
    obtain ⟨⟨⟨hi, hl⟩, hm⟩, hv⟩ := h
    by_cases hc : noComp v = true
    · exact ps_w (ps_set C.nd hi (gl_ok hl) (h1 C.toCtx C.sub v hm) (noComp_sw hc _ _ _) (.inl (C.fT x))) fun D σ H h => fin h
    · have hv : (isLcM m && chkAsgLc X.env.scope x p v) = true := by
        rw [Bool.or_eq_true] at hv
        exact hv.resolve_left hc
      rw [Bool.and_eq_true] at hv
      obtain ⟨hv1, hv2⟩ := hv
      cases m with
      | lc o vs elt tg it ifs =>
        have hs := C.sub
        simp only [chkE] at hm
        split at hm
        · rename_i elx t itx fs scope lp
          simp only [chkAsgLc, Bool.and_eq_true, decide_eq_true_eq, Bool.not_eq_true'] at hv2
          obtain ⟨⟨hy, hln⟩, hany⟩ := hv2
          have sw := sw_true (elt := elx) (gs := [⟨t, itx, fs, 0⟩]) (l := pos.line) (py := p) C.kind hy hln hany
          simp only [Bool.and_eq_true, List.all_eq_true, decide_eq_true_eq] at hm
          obtain ⟨⟨⟨⟨⟨⟨h1, h2⟩, h3⟩, h4⟩, h5⟩, h6⟩, h7⟩ := hm
          have ok : BlkOk X.N X.env.scope scope (ownOf X.N vs) := hs.blkC h3
          have hit := okI_all P I it C.toCtx hs t itx h5
          have e2 : (ownOf X.N vs).map (·.2) = vs := by
            unfold ownOf
            rw [List.map_map]
            simp [Function.comp_def]
          have hg : ∀ (s : Shared) (H : Hp) (Ca : Addr) (cl : List (Str × Addr)) (fp : List Addr), PG (X.blk s H scope (compEnvC scope cl Ca X.env) fp) t (LG X.K tg) := fun s H Ca cl fp => tg_ok (Sub.blk scope s H Ca cl fp) C.calm C.nd tg t h4
          have ht : ∀ (s : Shared) (H : Hp) (Ca : Addr) (cl : List (Str × Addr)) (fp : List Addr), PTs (X.blk s H scope (compEnvC scope cl Ca X.env) fp) fs (LT X.K X.mg WX0 (evTs P ifs)) := fun s H Ca cl fp => okTs_all P I ifs (C.blk s H scope _ fp) (Sub.blk scope s H Ca cl fp) fs h6
          have he : ∀ (s : Shared) (H : Hp) (Ca : Addr) (cl : List (Str × Addr)) (fp : List Addr), PE (X.blk s H scope (compEnvC scope cl Ca X.env) fp) elx (LE X.K X.mg WX0 (evE P elt)) := fun s H Ca cl fp => (okAll P I elt).1 (C.blk s H scope _ fp) (Sub.blk scope s H Ca cl fp) elx h7
          have ps := ps_setLc (i := i) (spos := pos) C.calm C.nd hi hy sw hit ok hg ht he (noFold_of h1)
          rw [e2] at ps
          refine ps_w (ps_fz ps) fun D σ H hq => ?_
          obtain ⟨ρ, ς, M, at_, hq⟩ := fin hq
          simp only [evE] at hq
          exact pe_lcA (o := o) C.toCtx hs h1 h2 ok hit hg ht he σ H (fun v H1 => D.nx (σ.set i (some v)) H1) ⟨ρ, ς, M, at_, hq⟩
        · exact Bool.noConfusion hm
      | _ => exact Bool.noConfusion hv1
  · rename_i x p ann v simple pos
    simp only [Bool.and_eq_true, decide_eq_true_eq] at h
    obtain ⟨⟨⟨hi, hl⟩, hm⟩, hv⟩ := h
    exact ps_w (ps_ann (h1 C.toCtx C.sub v hm) (pg_name C.nd hi (gl_ok hl) (.inl (C.fT x))) (noComp_sw hv _ _ _)) fun D σ H h => fin h
  · exact Bool.noConfusion h
theorem okS_asgT (tg : Tg) (m : E) : OkS P I (.asgT tg m) := by
  intro X W k C st h
  simp only [chkS] at h
  split at h
  · rename_i es kk p v pos
    simp only [Bool.and_eq_true] at h
    obtain ⟨⟨⟨ht, hd⟩, hc⟩, hm⟩ := h
    refine ps_w (ps_asg ((okAll P I m).1 C.toCtx C.sub v hm) (tg_ok C.sub C.calm C.nd tg _ ht) (show swapsWith v (some (.Tuple es kk p)) pos.line X.env = pure false from sw_tup hc) (by cases v <;> first | rfl | exact Bool.noConfusion hd)) fun D σ H ⟨ρ, ς, M, at_, h⟩ => ?_
    simp only [evS] at h
    refine ⟨ρ, ς, M, at_, ls_bind at_ h fun a M1 ρ1 v H1 at1 g1 r1 h1 => ?_⟩
    split at h1
    · rename_i ς' e
      exact ⟨ρ1, ς, M1, a, at1, r1, ς', e, fun σ' hs' _ => PostS.nx ⟨hs', at1.m⟩ h1⟩
    · exact False.elim h1
  · exact Bool.noConfusion h
theorem okS_set (a i m : E) : OkS P I (.set a i m) := by
  intro X W k C st h
  have fin : ∀ {D : Ends} {σ : L2.St} {H : Hp}, LS X.K X.mg W (evS P (.set a i m)) D σ H → tAsg (LE X.K X.mg W (evE P m)) (gSub (LE X.K X.mg W (evE P a)) (LE X.K X.mg W (evE P i)) rSetL) D σ H := by
    intro D σ H ⟨ρ, ς, M, at_, h⟩
    simp only [evS] at h
    refine ⟨ρ, ς, M, at_, ls_bind at_ h fun x M1 ρ1 v H1 at1 g1 r1 h1 => ?_⟩
    refine ⟨ρ1, ς, M1, at1, ls_bind at1 h1 fun y M2 ρ2 v2 H2 at2 g2 r2 h2 => ?_⟩
    refine ⟨ρ2, ς, M2, at2, ls_bind at2 h2 fun z M3 ρ3 v3 H3 at3 g3 r3 h3 => ?_⟩
    refine setA_w (mg := X.mg) (N := fun H' => D.nx σ H') (E := fun c d H' => W c d σ H') at3.m (r2.mono g3) r3 (r1.mono (g2.trans g3)) ?_
    exact ls_bind at3 h3 fun _ M4 ρ4 _ H4 at4 g4 _ h4 => PostS.nx at4 h4
  simp only [chkS] at h
  split at h
  · rename_i o j p v pos
    simp only [Bool.and_eq_true] at h
    obtain ⟨⟨⟨hn, hm⟩, ho⟩, hj⟩ := h
    refine ps_w (ps_asg ((okAll P I m).1 C.toCtx C.sub v hm) (pg_sub ((okAll P I a).1 C.toCtx C.sub o ho) ((okAll P I i).1 C.toCtx C.sub j hj) set_list ?_) (show swapsWith v (some (.Subscript o j p)) pos.line X.env = pure false from sw_sub) ?_) fun D σ H h => fin h
    · intro w
      cases j <;> first | rfl | exact Bool.noConfusion hn
    · cases v <;> rfl
  · rename_i o j p ann v simple pos
    simp only [Bool.and_eq_true] at h
    obtain ⟨⟨⟨hn, hm⟩, ho⟩, hj⟩ := h
    refine ps_w (ps_ann ((okAll P I m).1 C.toCtx C.sub v hm) (pg_sub ((okAll P I a).1 C.toCtx C.sub o ho) ((okAll P I i).1 C.toCtx C.sub j hj) set_list ?_) sw_sub) fun D σ H h => fin h
    intro w
    cases j <;> first | rfl | exact Bool.noConfusion hn
  · exact Bool.noConfusion h
theorem okS_expr (m : E) : OkS P I (.expr m) := by
  intro X W k C st h
  simp only [chkS] at h
  split at h
  · rename_i v pos
    rw [Bool.and_eq_true] at h
    refine ps_w (ps_expr ((okAll P I m).1 C.toCtx C.sub v h.2) (noComp_sw h.1 _ _ _)) fun D σ H ⟨ρ, ς, M, at_, h⟩ => ?_
    simp only [evS] at h
    exact ⟨ρ, ς, M, at_, ls_bind at_ h fun a M1 ρ1 v H1 at1 g1 r1 h1 => PostS.nx at1 h1⟩
  · exact Bool.noConfusion h
theorem okS_ret (m : E) : OkS P I (.ret m) := by
  intro X W k C st h
  simp only [chkS] at h
  split at h
  · rename_i v pos
    refine ps_w (ps_ret ((okAll P I m).1 C.toCtx C.sub v h)) fun D σ H ⟨ρ, ς, M, at_, h⟩ => ?_
    simp only [evS] at h
    exact ⟨ρ, ς, M, at_, ls_bind at_ h fun a M1 ρ1 v H1 at1 g1 r1 h1 => h1 ρ1 H1 (Grow.refl _ _) v r1 at1.m⟩
  · exact Bool.noConfusion h
theorem okS_retN : OkS P I .retN := by
  intro X W k C st h
  simp only [chkS] at h
  split at h
  · refine ps_w ps_retN fun D σ H ⟨ρ, ς, M, at_, h⟩ => ?_
    simp only [evS] at h
    exact h ρ H (Grow.refl _ _) .non .non at_.m
  · exact Bool.noConfusion h
theorem okS_ife (c : E) (a b : List S) (i1 : OkSs P I a) (i2 : OkSs P I b) : OkS P I (.ife c a b) := by
  intro X W k C st h
  simp only [chkS] at h
  split at h
  · rename_i e x y pos
    simp only [Bool.and_eq_true] at h
    refine ps_w (ps_if ((okAll P I c).2 C.toCtx C.sub e h.1.1) (i1 C x h.1.2) (i2 C y h.2)) fun D σ H ⟨ρ, ς, M, at_, h⟩ => ?_
    simp only [evS] at h
    refine ⟨ρ, ς, M, at_, ls_bind at_ h fun t M1 ρ1 v H1 at1 g1 r1 h1 => ?_⟩
    have r1' : t = v := r1
    subst r1'
    cases t with
    | true => rw [if_pos rfl] at h1 ⊢; exact ⟨ρ1, ς, M1, at1, h1⟩
    | false => rw [if_neg (by decide)] at h1 ⊢; exact ⟨ρ1, ς, M1, at1, h1⟩
  · exact Bool.noConfusion h
/-- a loop's turn -/
def turnF (P : Par) (tg : Tg) (body : List S) : A → Loc → Mem → Out (Fl × Loc) := fun x ς1 M2 => match bindT tg x ς1 with
  | some ς2 => evSs P body ς2 M2
  | none => .stuck
theorem okS_forS (tg : Tg) (it : It) (body : List S) (i1 : OkSs P I body) : OkS P I (.forS tg it body) := by
  intro X W k C st h
  simp only [chkS] at h
  split at h
  · rename_i t i b pos
    simp only [Bool.and_eq_true] at h
    obtain ⟨⟨⟨hset, htg⟩, hit⟩, hb⟩ := h
    refine ps_w (ps_for C.po C.calm (okI_all P I it C.toCtx C.sub t i hit) (tg_ok C.sub C.calm C.nd tg t htg) (i1 C b hb) (noFold_of hset)) fun D σ H ⟨ρ, ς, M, at_, h⟩ => ?_
    simp only [evS] at h
    refine ⟨ρ, ς, M, at_, ls_bind at_ h fun xs M1 ρ1 J H1 at1 g1 J1 h1 => ?_⟩
    have h1 : PostS X.K X.mg W ρ1 H1 (forL (turnF P tg body) xs ς M1) D := h1
    refine ⟨fun i m σ' H' => m = xs.length - i ∧ i ≤ xs.length ∧ ∃ ρ' ς' M', Grow ρ1 H1 ρ' H' ∧ At X.K ρ' H' ς' σ' M' ∧ PostS X.K X.mg W ρ' H' (forL (turnF P tg body) (xs.drop i) ς' M') D,
      ⟨xs.length, by simp, Nat.zero_le _, ρ1, ς, M1, Grow.refl _ _, at1, by simpa using h1⟩, ?_⟩
    rintro i m σ' H' ⟨rfl, hle, ρ', ς', M', g, at', po⟩
    obtain ⟨hstop, hgo⟩ := J1 ρ' H' g
    by_cases hlt : i < xs.length
    · have hx : xs[i]? = some xs[i] := List.getElem?_eq_getElem hlt
      obtain ⟨go, yld⟩ := hgo i _ hx
      rw [List.drop_eq_getElem_cons hlt] at po
      simp only [forL] at po
      refine .inr ⟨go, fun σ4 H4 => ∃ ρ' ς' M', Grow ρ1 H1 ρ' H4 ∧ At X.K ρ' H4 ς' σ4 M' ∧ PostS X.K X.mg W ρ' H4 (forL (turnF P tg body) (xs.drop (i + 1)) ς' M') D,
        fun σ4 H4 q => ⟨xs.length - (i + 1), by omega, rfl, hlt, q⟩, fun v H2 hy => ?_⟩
      obtain ⟨gy, ry, my⟩ := yld v H2 hy
      have at2 : At X.K ρ' H2 ς' σ' M' := ⟨at'.s.mono gy, my M' at'.m⟩
      have po := PostS.grow gy po
      cases hbt : bindT tg xs[i] ς' with
      | none =>
        unfold turnF at po
        rw [hbt] at po
        exact False.elim po
      | some ς2 =>
        refine ⟨ρ', ς', M', xs[i], at2, ry, ς2, hbt, fun σ2 hs2 _ => ?_⟩
        refine ⟨ρ', ς2, M', ⟨hs2, at2.m⟩, ?_⟩
        have e : turnF P tg body xs[i] ς' M' = evSs P body ς2 M' := by
          unfold turnF; rw [hbt]
        rw [e] at po
        have g2 := g.trans gy
        revert po
        cases evSs P body ς2 M' with
        | ok r M3 =>
          obtain ⟨fl, ς3⟩ := r
          cases fl with
          | nxt => exact fun h ρ3 H3 g3 σ3 at3 => ⟨ρ3, ς3, M3, g2.trans g3, at3, PostS.grow g3 h⟩
          | cnt => exact fun h ρ3 H3 g3 σ3 at3 => ⟨ρ3, ς3, M3, g2.trans g3, at3, PostS.grow g3 h⟩
          | brk => exact fun h ρ3 H3 g3 σ3 at3 => h ρ3 H3 g3 σ3 at3
          | ret a => exact fun h => h
        | exc x M3 => exact fun h => h
        | stuck => exact fun h => h
    · have e : i = xs.length := by omega
      subst e
      rw [List.drop_length] at po
      exact .inl ⟨hstop, PostS.nx at' po⟩
  · exact Bool.noConfusion h
theorem okS_whl (c : E) (body : List S) (i1 : OkSs P I body) : OkS P I (.whl c body) := by
  intro X W k C st h
  simp only [chkS] at h
  split at h
  · rename_i e b pos
    simp only [Bool.and_eq_true] at h
    refine ps_w (ps_while C.po ((okAll P I c).2 C.toCtx C.sub e h.1) (i1 C b h.2)) fun D σ H ⟨ρ, ς, M, at_, h⟩ => ?_
    simp only [evS] at h
    refine ⟨fun n σ' H' => ∃ ρ' ς' M', At X.K ρ' H' ς' σ' M' ∧ PostS X.K X.mg W ρ' H' (whileL (fun ς M => evT P c ς M) (fun ς M => evSs P body ς M) n ς' M') D, ⟨P.wf, ρ, ς, M, at_, h⟩, ?_⟩
    rintro n σ' H' ⟨ρ', ς', M', at', po⟩
    cases n with
    | zero => exact False.elim po
    | succ n =>
      simp only [whileL] at po
      refine ⟨ρ', ς', M', at', ls_bind at' po fun t M1 ρ1 v H1 at1 g1 r1 h1 => ?_⟩
      have r1' : t = v := r1
      subst r1'
      cases t with
      | false => rw [if_neg (by decide)] at h1 ⊢; exact PostS.nx at1 h1
      | true =>
        rw [if_pos rfl] at h1 ⊢
        refine ⟨fun σ4 H4 => ∃ ρ' ς' M', At X.K ρ' H4 ς' σ4 M' ∧ PostS X.K X.mg W ρ' H4 (whileL (fun ς M => evT P c ς M) (fun ς M => evSs P body ς M) n ς' M') D, fun σ4 H4 q => ⟨n, Nat.lt_succ_self _, q⟩, ρ1, ς', M1, at1, ?_⟩
        revert h1
        cases evSs P body ς' M1 with
        | ok r M3 =>
          obtain ⟨fl, ς3⟩ := r
          cases fl with
          | nxt => exact fun h ρ3 H3 g3 σ3 at3 => ⟨ρ3, ς3, M3, at3, PostS.grow g3 h⟩
          | cnt => exact fun h ρ3 H3 g3 σ3 at3 => ⟨ρ3, ς3, M3, at3, PostS.grow g3 h⟩
          | brk => exact fun h ρ3 H3 g3 σ3 at3 => h ρ3 H3 g3 σ3 at3
          | ret a => exact fun h => h
        | exc x M3 => exact fun h => h
        | stuck => exact fun h => h
  · exact Bool.noConfusion h
theorem okS_brk : OkS P I .brk := by
  intro X W k C st h
  simp only [chkS] at h
  split at h
  · refine ps_w ps_break fun D σ H ⟨ρ, ς, M, at_, h⟩ => ?_
    simp only [evS] at h
    exact h ρ H (Grow.refl _ _) σ at_
  · exact Bool.noConfusion h
theorem okS_cnt : OkS P I .cnt := by
  intro X W k C st h
  simp only [chkS] at h
  split at h
  · refine ps_w ps_continue fun D σ H ⟨ρ, ς, M, at_, h⟩ => ?_
    simp only [evS] at h
    exact h ρ H (Grow.refl _ _) σ at_
  · exact Bool.noConfusion h
theorem okS_pass : OkS P I .pass := by
  intro X W k C st h
  simp only [chkS] at h
  split at h
  · refine ps_w ps_pass fun D σ H ⟨ρ, ς, M, at_, h⟩ => ?_
    simp only [evS] at h
    exact h ρ H (Grow.refl _ _) σ at_
  · refine ps_w ps_doc fun D σ H ⟨ρ, ς, M, at_, h⟩ => ?_
    simp only [evS] at h
    exact h ρ H (Grow.refl _ _) σ at_
  · exact Bool.noConfusion h
theorem okSs_nil : OkSs P I [] := by
  intro X W k C ss h
  cases ss with
  | nil =>
    refine pss_w pss_nil fun D σ H ⟨ρ, ς, M, at_, h⟩ => ?_
    simp only [evSs] at h
    exact h ρ H (Grow.refl _ _) σ at_
  | cons _ _ => simp [chkSs] at h
theorem okSs_cons (m : S) (ms : List S) (i1 : OkS P I m) (i2 : OkSs P I ms) : OkSs P I (m :: ms) := by
  intro X W k C ss h
  cases ss with
  | nil => simp [chkSs] at h
  | cons s ss =>
    simp only [chkSs, Bool.and_eq_true] at h
    refine pss_w (pss_cons (i1 C s h.1) (i2 C ss h.2)) fun D σ H ⟨ρ, ς, M, at_, h⟩ => ?_
    simp only [evSs] at h
    exact ⟨ρ, ς, M, at_, PostS.seq h⟩
theorem okSAll (P : Par) (I : Inf) (ms : List S) : OkSs P I ms := by
  refine S.rec_1 (motive_1 := fun m => OkS P I m) (motive_2 := fun ms => OkSs P I ms)
    ?asg ?asgT ?set ?expr ?ret ?retN ?ife ?forS ?whl ?brk ?cnt ?pass ?nil ?cons ms
  case asg => exact fun i e => okS_asg i e
  case asgT => exact fun i e => okS_asgT i e
  case set => exact fun a i e => okS_set a i e
  case expr => exact fun e => okS_expr e
  case ret => exact fun e => okS_ret e
  case retN => exact okS_retN
  case ife => exact fun c a b i j => okS_ife c a b i j
  case forS => exact fun tg it b i => okS_forS tg it b i
  case whl => exact fun c b i => okS_whl c b i
  case brk => exact okS_brk
  case cnt => exact okS_cnt
  case pass => exact okS_pass
  case nil => exact okSs_nil
  case cons => exact fun m ms i j => okSs_cons m ms i j
end
end MP

/-! MP, part J: defs, and the law's entry -/
namespace MP
open PySem PySem.Spec PyProof.Rows L2

/-- what is known of a def: its object, its text checked -/
structure FnFact (K : PySem.W.Frag) (mg : Str → Option Value) (I : Inf) (f : Str) (d : Fn) : Prop where
  ex : ∃ (fa : Addr) (fd : FuncData) (st : Stmt), mg f = some (.ref fa) ∧ Fun K f f st fa fd ∧ Binds K fd d.ps [] ∧ FnScope d.ns d.ps (defScope st) ∧ chkSs I d.ns (defScope st) d.body (defBody st) = true
/-- a global's tree -/
def GlobRep (K : PySem.W.Frag) (mg : Str → Option Value) (x : Str) (a : A) : Prop := ∃ u v, mg x = some u ∧ RelV v u ∧ ∀ ρ H, Rep K ρ H a v

section
variable {P : Program} {w : World} {K : PySem.W.Frag} {mg : Str → Option Value} {base : Heap} {I : Inf} {T : Tbl} {G : Str → Option A} {wf : Nat}
theorem post_ret {ρ : List Addr} {H : Hp} {o : Out (Fl × Loc)} {Q : VK} {E : XK} (h : Post K mg (Rep K) ρ H (retOf o) Q E) :
    PostS K mg (fun cls d _ H => E cls d H) ρ H o { nx := fun _ H' => Q .non H', rt := Q } := by
  cases o with
  | ok r M =>
    obtain ⟨fl, ς⟩ := r
    cases fl with
    | nxt => exact fun ρ1 H1 g1 σ1 at1 => h .non ρ1 H1 g1 .non at1.m
    | brk => exact False.elim h
    | cnt => exact False.elim h
    | ret a => exact fun ρ1 H1 g1 v r m => h v ρ1 H1 g1 r m
  | exc x M => exact fun c d ρ1 H1 σ1 g1 e m => h c d ρ1 H1 g1 e m
  | stuck => exact h
theorem rep_start {ρ : List Addr} {H : Hp} {xs : List A} {vs : List V} (r : RepAll K ρ H xs vs) (N : List Str) : RepS K ρ H (startA N.length xs) (L2.start N vs) := by
  have hl := r.length
  refine ⟨by simp [startA, L2.start, hl], fun i x e => ?_⟩
  unfold startA at e
  unfold L2.start
  by_cases hi : i < xs.length
  · rw [List.getElem?_append_left (by simpa using hi)] at e
    rw [List.getElem?_map, Option.map_eq_some_iff] at e
    obtain ⟨y, e1, e2⟩ := e
    cases e2
    obtain ⟨v, h1, h2⟩ := r.get e1
    refine ⟨v, ?_, h2⟩
    rw [List.getElem?_append_left (by rw [List.length_map, ← hl]; exact hi), List.getElem?_map, h1]
    rfl
  · rw [List.getElem?_append_right (by simpa using Nat.le_of_not_lt hi)] at e
    rw [List.getElem?_replicate] at e
    split at e <;> cases e
/-- what the body of a def leans on: the defs at the depth below -/
abbrev AllG (P : Program) (w : World) (K : PySem.W.Frag) (mg : Str → Option Value) (base : Heap) (I : Inf) (g : Str → List A → Mem → Out A) (k : Nat) : Prop :=
  ∀ f ∈ I.fns, ∃ fa fd ps, mg f = some (.ref fa) ∧ PySem.W.keepIn K (.ref fa) = true ∧ Binds K fd ps [] ∧
      FnG P w K mg base k fa fd ps (spOf K mg (g f) ps.length) ∧ ∀ xs M, xs.length ≠ ps.length → g f xs M = .stuck
theorem fnG_step {k : Nat} (hbl : ∀ b ∈ I.bs, mg b = none) (hgl : ∀ x a, G x = some a → GlobRep K mg x a) (ih : AllG P w K mg base I (runF wf T G k) k) {f : Str} {d : Fn} {fa : Addr} {fd : FuncData} {st : Stmt}
    (hd : T.lookup f = some d) (h2 : Fun K f f st fa fd) (h4 : FnScope d.ns d.ps (defScope st)) (h5 : chkSs I d.ns (defScope st) d.body (defBody st) = true) :
    FnG P w K mg base (k + 1) fa fd d.ps (spOf K mg (runF wf T G (k + 1) f) d.ps.length) := by
  obtain ⟨oc, od, kV, doc, pm, an, cdv, ct, osl, rfl, lk, hcd⟩ := h2.ex
  refine fn_ofG lk hcd h4 (fun vs H Q E h => h.1) fun A outer s H vs Q E hr hg hsp => ?_
  obtain ⟨hl, ρ, M, xs, r, m, po⟩ := hsp
  have C : SCtx (cxOf (L2.CX P w) P w K mg base d.ns f (defScope st) fa cdv A outer s H E) I ⟨runF wf T G k, G, wf⟩ (fun cls d _ H => E cls d H) k := by
    refine { toCtx := ⟨rfl, h4.nd, hg, hr, hgl, ih, hbl, ?_⟩, po := ?_, fT := fun _ => rfl, kind := h4.kind }
    · exact L2.takes_of rfl rfl rfl rfl
    · exact PassesOwn.leaving
  refine ⟨_, okSAll _ I d.body C _ h5, ρ, startA d.ns.length xs, M, ⟨rep_start r d.ns, m⟩, post_ret ?_⟩
  have e : runF wf T G (k + 1) f xs M = retOf (evSs ⟨runF wf T G k, G, wf⟩ d.body (startA d.ns.length xs) M) := by
    simp only [runF, hd]
    rw [if_pos (by rw [r.length]; exact hl)]
  rw [← e]
  exact po
/-- every def keeps its promise at every depth -/
theorem fnG_all (hfn : ∀ f ∈ I.fns, ∃ d, T.lookup f = some d ∧ FnFact K mg I f d) (hbl : ∀ b ∈ I.bs, mg b = none) (hgl : ∀ x a, G x = some a → GlobRep K mg x a) :
    ∀ k, AllG P w K mg base I (runF wf T G k) k := by
  intro k
  induction k with
  | zero =>
    intro f hf
    obtain ⟨d, hd, ⟨fa, fd, st, h1, h2, h3, h4, h5⟩⟩ := hfn f hf
    refine ⟨fa, fd, d.ps, h1, h2.kp, h3, ⟨fun vs H Q E h => h.1, fun A outer s H args us vs Q E _ _ _ _ _ h => ?_⟩, fun xs M _ => rfl⟩
    obtain ⟨_, ρ, M, xs, _, _, po⟩ := h
    exact False.elim po
  | succ k ih =>
    intro f hf
    obtain ⟨d, hd, ⟨fa, fd, st, h1, h2, h3, h4, h5⟩⟩ := hfn f hf
    refine ⟨fa, fd, d.ps, h1, h2.kp, h3, fnG_step hbl hgl ih hd h2 h4 h5, fun xs M hl => ?_⟩
    simp only [runF, hd]
    rw [if_neg hl]
end

/-! ### the law -/
/-- the script as a tree -/
def scriptA (ns : List Int) : A := .lst (ns.map A.int)
theorem reps_ints {K : PySem.W.Frag} {ρ : List Addr} {H : Hp} : ∀ ns : List Int, RepAll K ρ H (ns.map A.int) (ns.map V.int)
  | [] => .nil
  | n :: ns => .cons (.int n) (reps_ints ns)
theorem law_callG {P : Program} {w : World} {K : PySem.W.Frag} {mg mb : Str → Option Value} {k : Nat} {fa a : Addr} {fd : FuncData} {x : Str} {g : List A → Mem → Out A} {s₁ : Shared} {vs : List Value} {ns : List Int}
    (KX : K.In s₁.heap) (hns : s₁.heap.Ns mainGlobals mg) (hb : s₁.heap.Ns builtinsNs mb) (hbb : ∀ x : Str, x ≠ "__name__" → mb x = bootBuiltins x) (hlim : s₁.heap.NoLimit) (hg : s₁.gens = #[])
    (ha : s₁.heap.get? a = some { cls := .type "list", data := .seq vs.toArray }) (hi : IntsAre vs ns) (hl : ns.length ≤ sizeLine) (hr : Room k callerA)
    (F : ∀ base : Heap, K.In base → base.Ns mainGlobals mg → FnG P w K mg base k fa fd [x] (spOf K mg g 1)) (hbind : Binds K fd [x] [])
    (hrun : ∃ M, g [scriptA ns] [] = .ok (.bl true) M) :
    codeAny (model P w) callerA (.call (.ref fa) ⟨[.ref a], []⟩) (fun r s' => r = .ok (.ret (.bool true)) ∧ OldK s₁.heap s'.heap ∧ s'.os = s₁.os ∧ AllBare s'.gens) s₁ := by
  have rv := vals_ints hi
  have lenV := hi.length
  have core : ∀ H : Hp, Only H → FzL K H a (ns.map V.int) → HOk P w H s₁.heap → (∀ b, H b ≠ none → b = a) → (H a ≠ none → K.lookup a = none) →
      codeAny (model P w) callerA (.call (.ref fa) ⟨[.ref a], []⟩) (fun r s' => r = .ok (.ret (.bool true)) ∧ OldK s₁.heap s'.heap ∧ s'.os = s₁.os ∧ AllBare s'.gens) s₁ := by
    intro H hO hS hok hA hK
    have base_of : ∀ {b : Addr} {o : Obj}, s₁.heap.get? b = some o → H b = none → (hidT s₁.heap H).get? b = some o := fun e n => hidT_get e n
    have noA : ∀ {b : Addr} {o : Obj} {es : Array DictEntry} {ep : Nat}, s₁.heap.get? b = some o → o.data = .dict es ep → H b = none := fun {b o es ep} e d => by
      cases q : H b with
      | none => rfl
      | some u =>
        have e' : b = a := hA b (by rw [q]; simp)
        subst e'
        rw [ha] at e; cases e
        have d' : Data.seq vs.toArray _ = Data.dict es ep := d
        cases d'
    have nsK : ∀ {b : Addr} {m : Str → Option Value}, s₁.heap.Ns b m → (hidT s₁.heap H).Ns b m := fun {b m} ⟨o, es, ep, e, d, r⟩ => ⟨o, es, ep, base_of e (noA e d), d, r⟩
    have hKb : K.In (hidT s₁.heap H) := fun b o e => base_of (KX b o e) (by
      cases q : H b with
      | none => rfl
      | some u =>
        have e' : b = a := hA b (by rw [q]; simp)
        subst e'
        rw [hK (by rw [q]; simp)] at e; cases e)
    have hM : Mod K mg (hidT s₁.heap H) := ⟨hKb, nsK hns, ⟨mb, nsK hb, hbb⟩, let ⟨mc, h1, h2⟩ := hlim; ⟨mc, nsK h1, h2⟩⟩
    have e0 : Env0 P w K mg (hidT s₁.heap H) callerA [] s₁ H := ⟨rfl, hM, fun b o e => of_hidT e, Nat.le_of_eq (hidT_size _ _), trivial, fun b hb => absurd (show b ∈ ([] : List Addr) from hb) (by simp), hok, .of_eq hg⟩
    have hsp : spOf K mg g 1 [.ref a] H (fun v _ => v = .bl true) fun _ _ _ => False := by
      obtain ⟨M, hM⟩ := hrun
      refine ⟨rfl, [], [], [scriptA ns], .cons (.lst hS (reps_ints ns)) .nil, ⟨rfl, .nil, fun a ha => by simp at ha, fun n c a h1 h2 => by simp at h2⟩, ?_⟩
      rw [hM]
      intro v ρ' H' _ rv _
      cases rv
      rfl
    refine codeAny_mono ((F _ hKb (nsK hns)).run callerA [] s₁ H ⟨[.ref a], []⟩ [.ref a] [.ref a] _ _ hr rfl e0 (hbind s₁ [.ref a] KX rfl) (.cons rfl .nil) hsp) fun r s' h => ?_
    cases r with
    | error e =>
      obtain ⟨_, _, _, _, _, _, _, _, _, _, _, _, h⟩ := h
      exact False.elim h
    | ok fl =>
      cases fl with
      | next => exact False.elim h
      | brk => exact False.elim h
      | cont => exact False.elim h
      | ret u =>
        obtain ⟨v, H', os, bare, un, hok', r', q⟩ := h
        have q' : v = .bl true := q
        subst q'
        obtain rfl : u = Value.bool true := r'
        refine ⟨rfl, OldK.of_keep fun b o e => ?_, os, bare⟩
        cases q : H b with
        | none => exact un.keep b o e q (by intro z; exact absurd (show b ∈ ([] : List Addr) from z) (by simp)) (by simp)
        | some u =>
          rcases hO b with z | ⟨ob, xs, z⟩
          · rw [q] at z; cases z
          · have z2 := un.frzs b ob _ z
            obtain ⟨e1, _⟩ := hok b _ z
            obtain ⟨e2, _⟩ := hok' b _ z2
            rw [e] at e1; cases e1
            exact e2
  cases hk : K.lookup a with
  | some o =>
    have e := KX a o hk
    rw [ha] at e
    cases e
    refine core (fun _ => none) (fun _ => .inl rfl) (.inr ⟨vs.toArray, _, hk, by rw [List.size_toArray, lenV]; exact hl, by simpa using rv⟩) (fun b u z => by have z' : (none : Option HO) = some u := z; cases z') (fun b z => absurd rfl z) fun z => absurd rfl z
  | none =>
    refine core (fun b => if b = a then some (.frz { cls := .type "list", data := .seq vs.toArray } (.lst (ns.map V.int))) else none) (fun b => ?_) (.inl ⟨{ cls := .type "list", data := .seq vs.toArray }, if_pos rfl⟩) (fun b u z => ?_) (fun b z => ?_) fun _ => hk
    · by_cases hb : b = a
      · exact .inr ⟨_, _, if_pos hb⟩
      · exact .inl (if_neg hb)
    · by_cases hb : b = a
      · have z' := (if_pos hb).symm.trans z
        cases z'
        subst hb
        exact ⟨ha, by rw [List.length_map]; exact hl, vs, _, rv, ha⟩
      · have z' := (if_neg hb).symm.trans z
        cases z'
    · by_cases hb : b = a
      · exact hb
      · exact absurd (if_neg hb) z
/-- THE END: the law from its text -/
theorem walk_mp {l : PySem.W.OpenLaw} {n k wf : Nat} {q : Program} {loose : List Str} {XP : (Str → Option Value) → Heap → Prop} {YP : World → Heap → Prop} {d : DefRec} {K : Params → PySem.W.Frag} {x : Str} (I : Inf) (T : Tbl) (G : Str → Option A) (fn : Fn)
    (hn : l.most = some n) (hn2 : n ≤ sizeLine) (hdf : d.params.defaults = []) (hr : Room (k + 1) callerA)
    (hY : ∀ (w : World) (h : Heap), YP w h → (K w.params).In h)
    (hT : T.lookup d.name = some fn) (hps : fn.ps = [x]) (hname : d.name ∈ I.fns)
    (F : ∀ (w : World) (mg : Str → Option Value) (h : Heap), (K w.params).In h → h.Ns mainGlobals mg →
      (∀ f ∈ I.fns, ∃ d, T.lookup f = some d ∧ FnFact (K w.params) mg I f d) ∧ (∀ b ∈ I.bs, mg b = none) ∧ ∀ x a, G x = some a → GlobRep (K w.params) mg x a)
    (hrun : ∀ ns : List Int, ns.length ≤ n → ∃ M, runF wf T G (k + 1) d.name [scriptA ns] [] = .ok (.bl true) M) :
    PySem.W.WalkO q loose XP YP l.row.toRowW d [] (fun f vs => PySem.call f vs) := by
  refine Att.attach_call hn hdf fun w s₀ s₁ mg mb fa o pm cd doc a vs ns Gr Y ho hd hcd hmg hobj hints hlen hg => ?_
  have KX := hY w _ Y
  obtain ⟨f1, f2, f3⟩ := F w mg _ KX Gr.T.g
  obtain ⟨fn', e1, ⟨fa', fd, st, h1, h2, h3, h4, h5⟩⟩ := f1 _ hname
  rw [hT] at e1
  cases e1
  rw [hmg] at h1
  cases h1
  refine law_callG (x := x) (fd := fd) KX Gr.T.g Gr.T.b Gr.T.builtins Gr.T.nolimit hg hobj hints (Nat.le_trans hlen hn2) hr (fun base _ _ => ?_) (by rw [← hps]; exact h3) (hrun ns hlen)
  have q := fnG_step (P := l.prog) (w := w) (base := base) (wf := wf) f2 f3 (fnG_all f1 f2 f3 k) hT h2 h4 h5
  rw [hps] at q
  exact q
/-! globals -/
theorem glob_all {K : PySem.W.Frag} {mg : Str → Option Value} {l : List (Str × A)} (h : ∀ p ∈ l, GlobRep K mg p.1 p.2) (x : Str) (a : A) (e : l.lookup x = some a) : GlobRep K mg x a := by
  induction l with
  | nil => cases e
  | cons p r ih =>
    obtain ⟨y, b⟩ := p
    by_cases hx : x == y
    · have hy : x = y := by simpa using hx
      subst hy
      simp [List.lookup] at e
      subst e
      exact h _ List.mem_cons_self
    · have hx' : (x == y) = false := by simpa using hx
      simp only [List.lookup, hx'] at e
      exact ih (fun p hp => h p (List.mem_cons_of_mem _ hp)) e
section
variable {K : PySem.W.Frag} {mg : Str → Option Value} {x : Str}
theorem glob_str {s : Str} {t} (h : mg x = some (.str s t)) : GlobRep K mg x (.str s) := ⟨_, .str s, h, ⟨t, rfl⟩, fun _ _ => .str s⟩
theorem glob_int {i : Int} {t} (h : mg x = some (.int i t)) : GlobRep K mg x (.int i) := ⟨_, .int i, h, ⟨t, rfl⟩, fun _ _ => .int i⟩
theorem reps_strs {ρ : List Addr} {H : Hp} : ∀ ss : List Str, RepAll K ρ H (ss.map A.str) (ss.map V.str)
  | [] => .nil
  | s :: ss => .cons (.str s) (reps_strs ss)
theorem glob_tup (ss : List Str) {a : Addr} {od : Option Addr} {its : Array Value} {n : Nat} {sl : Array (Option Value)} (h : mg x = some (.ref a)) (l : K.lookup a = some ⟨.type "tuple", od, .seq its n, sl⟩) (hz : its.size ≤ sizeLine)
    (r : Vals (ss.map V.str) its.toList) : GlobRep K mg x (.tup (ss.map A.str)) := ⟨_, .ref a, h, rfl, fun _ _ => .tup (.inr ⟨_, its, n, l, rfl, rfl, hz, r⟩) (reps_strs ss)⟩
end
theorem lookup_by {β : Type} : ∀ (l : List (Str × β)) (i : Nat) (f : Str) (d : β), l[i]? = some (f, d) → ((l.map Prod.fst).take i).all (fun g => !(f == g)) = true → l.lookup f = some d
  | [], _, _, _, h, _ => by simp at h
  | (g, b) :: r, 0, f, d, h, _ => by
    simp at h
    obtain ⟨rfl, rfl⟩ := h
    simp [List.lookup]
  | (g, b) :: r, i + 1, f, d, h, h2 => by
    simp only [List.map_cons, List.take_succ_cons, List.all_cons, Bool.and_eq_true, Bool.not_eq_true'] at h2
    simp only [List.lookup, h2.1]
    exact lookup_by r i f d (by simpa using h) h2.2
end MP

/-! printed by wip/gen.py: the text of the law as an MP table, checked against the program -/
namespace K01
open PySem PySem.Spec PyProof.Rows L2 MP
def top (i : Nat) : Stmt := PySem.Challenge.pw_factsandfar_k01_concepts_and_axioms.main.body.getD i (.Pass ⟨0, 0, 0, 0⟩)
def f_law_fixed : Fn := ⟨[], [(Str.ofString "_law_items")],
  [.asg 0 (.lst true [(.con .none), (.con (.bool true)), (.con (.int 0)), (.con (.int 5)), (.con (.str (Str.ofString ""))), (.con (.str (Str.ofString "concept"))), (.tup []), (.lst false []), (.dnew), (.tup [(.con (.str (Str.ofString "concept")))]), (.tup [(.con (.str (Str.ofString "concept"))), (.con (.str (Str.ofString "a"))), (.con (.str (Str.ofString "b")))]), (.lst false [(.con (.str (Str.ofString "concept"))), (.con (.str (Str.ofString "a")))]), (.tup [(.con (.str (Str.ofString "concept"))), (.con (.str (Str.ofString "A")))])]),
   .asg 0 (.bin true .Add (.var 0) (.lst false [(.tup [(.con (.str (Str.ofString "concept"))), (.con (.str (Str.ofString "")))]), (.tup [(.con (.str (Str.ofString "concept"))), (.con (.str (Str.ofString "abcdefgh")))]), (.tup [(.con (.str (Str.ofString "concept"))), (.con (.str (Str.ofString "abcdefghi")))]), (.tup [(.con (.str (Str.ofString "out"))), (.con (.int 5))]), (.tup [(.con (.str (Str.ofString "in"))), (.con (.str (Str.ofString "r1")))]), (.tup [(.con (.str (Str.ofString "Has"))), (.con (.str (Str.ofString "r")))])])),
   .asg 0 (.bin true .Add (.var 0) (.lst false [(.tup [(.con (.str (Str.ofString "kinds"))), (.con (.str (Str.ofString "a")))]), (.tup [(.con (.int 5)), (.con (.str (Str.ofString "a")))]), (.tup [(.lst false [(.con (.str (Str.ofString "out")))]), (.con (.str (Str.ofString "r")))]), (.tup [(.dnew), (.con (.str (Str.ofString "r")))]), (.tup [(.con (.str (Str.ofString "out"))), (.con (.str (Str.ofString "r ")))]), (.tup [(.con (.str (Str.ofString "in"))), (.con (.str (Str.ofString " r")))]), (.tup [(.con (.str (Str.ofString "out"))), (.con (.str (Str.ofString "r\n")))])])),
   .asg 0 (.bin true .Add (.var 0) (.lst false [(.tup [(.con (.str (Str.ofString "out"))), (.lst false [(.con (.str (Str.ofString "r")))])]), (.tup [(.tup [(.con (.str (Str.ofString "out"))), (.con (.str (Str.ofString "r")))])]), (.tup [(.con (.bool true)), (.con (.str (Str.ofString "a")))]), (.tup [(.con (.str (Str.ofString "functional")))]), (.tup [(.con (.str (Str.ofString "functional"))), (.con (.str (Str.ofString "r")))]), (.tup [(.con (.str (Str.ofString "functional"))), (.tup [(.con (.str (Str.ofString "concept"))), (.con (.str (Str.ofString "a")))])])])),
   .asg 0 (.bin true .Add (.var 0) (.lst false [(.tup [(.con (.str (Str.ofString "subclass"))), (.con (.str (Str.ofString "a"))), (.con (.str (Str.ofString "b")))]), (.tup [(.con (.str (Str.ofString "subrole"))), (.tup [(.con (.str (Str.ofString "out"))), (.con (.str (Str.ofString "r")))]), (.tup [(.con (.str (Str.ofString "out"))), (.con (.str (Str.ofString "s")))])]), (.tup [(.con (.str (Str.ofString "disjoint_roles"))), (.con (.str (Str.ofString "r")))])])),
   .expr (.meth .append (.var 0) [(.tup [(.con (.str (Str.ofString "disjoint_inverse"))), (.con (.str (Str.ofString "r"))), (.con (.str (Str.ofString "r"))), (.con (.str (Str.ofString "r")))])]),
   .ret (.bin false .Add (.var 0) (.lst false [(.tup [(.con (.str (Str.ofString "functional"))), (.tup [(.con (.str (Str.ofString "out"))), (.con (.str (Str.ofString "r")))]), (.tup [(.con (.str (Str.ofString "out"))), (.con (.str (Str.ofString "r")))])]), (.tup [(.con (.str (Str.ofString "subclass"))), (.tup [(.con (.str (Str.ofString "concept"))), (.con (.str (Str.ofString "a")))])])]))]⟩
def f_is_string_of : Fn := ⟨[(Str.ofString "candidate"), (Str.ofString "characters")], [(Str.ofString "candidate"), (Str.ofString "characters"), (Str.ofString "character")],
  [.ife (.or (.not (.isi (.var 0) .str)) (.not (.chain .LtE .LtE (.con (.int 1)) (.blt false .len [(.var 0)]) (.glob (Str.ofString "MAX_LENGTH"))))) [.ret (.con (.bool false))] [],
   .ret (.blt false .all [(.lc false [2] (.cmp .In (.var 2) (.var 1)) (.name 2) (.over (.var 0)) [])])]⟩
def f_is_word : Fn := ⟨[(Str.ofString "candidate")], [(Str.ofString "candidate")],
  [.ret (.call (Str.ofString "is_string_of") [(.var 0), (.glob (Str.ofString "LETTERS"))])]⟩
def f_is_direction : Fn := ⟨[(Str.ofString "candidate")], [(Str.ofString "candidate")],
  [.ife (.or (.not (.isi (.var 0) .tuple)) (.or (.cmp .NotEq (.blt false .len [(.var 0)]) (.con (.int 2))) (.not (.isi (.idx (.var 0) (.con (.int 0))) .str)))) [.ret (.con (.bool false))] [],
   .ret (.and (.cmp .In (.idx (.var 0) (.con (.int 0))) (.glob (Str.ofString "DIRECTION_WORDS"))) (.call (Str.ofString "is_word") [(.idx (.var 0) (.con (.int 1)))]))]⟩
def f_is_concept : Fn := ⟨[(Str.ofString "candidate")], [(Str.ofString "candidate")],
  [.ife (.call (Str.ofString "is_direction") [(.var 0)]) [.ret (.con (.bool true))] [],
   .ife (.or (.not (.isi (.var 0) .tuple)) (.or (.cmp .NotEq (.blt false .len [(.var 0)]) (.con (.int 2))) (.not (.isi (.idx (.var 0) (.con (.int 0))) .str)))) [.ret (.con (.bool false))] [],
   .ret (.and (.cmp .Eq (.idx (.var 0) (.con (.int 0))) (.con (.str (Str.ofString "concept")))) (.call (Str.ofString "is_word") [(.idx (.var 0) (.con (.int 1)))]))]⟩
def f_is_axiom : Fn := ⟨[(Str.ofString "candidate")], [(Str.ofString "candidate")],
  [.ife (.or (.not (.isi (.var 0) .tuple)) (.or (.not (.chain .LtE .LtE (.con (.int 2)) (.blt false .len [(.var 0)]) (.con (.int 3)))) (.not (.isi (.idx (.var 0) (.con (.int 0))) .str)))) [.ret (.con (.bool false))] [],
   .ife (.cmp .Eq (.blt false .len [(.var 0)]) (.con (.int 2))) [.ret (.and (.cmp .Eq (.idx (.var 0) (.con (.int 0))) (.con (.str (Str.ofString "functional")))) (.call (Str.ofString "is_direction") [(.idx (.var 0) (.con (.int 1)))]))] [],
   .ife (.cmp .In (.idx (.var 0) (.con (.int 0))) (.glob (Str.ofString "CONCEPT_AXIOMS"))) [.ret (.and (.call (Str.ofString "is_concept") [(.idx (.var 0) (.con (.int 1)))]) (.call (Str.ofString "is_concept") [(.idx (.var 0) (.con (.int 2)))]))] [],
   .ret (.and (.cmp .In (.idx (.var 0) (.con (.int 0))) (.glob (Str.ofString "ROLE_AXIOMS"))) (.and (.call (Str.ofString "is_word") [(.idx (.var 0) (.con (.int 1)))]) (.call (Str.ofString "is_word") [(.idx (.var 0) (.con (.int 2)))])))]⟩
def f_law_is_word : Fn := ⟨[(Str.ofString "_law_value")], [(Str.ofString "_law_value"), (Str.ofString "_law_sign")],
  [.ife (.or (.not (.isi (.var 0) .str)) (.not (.chain .LtE .LtE (.con (.int 1)) (.blt false .len [(.var 0)]) (.con (.int 8))))) [.ret (.con (.bool false))] [],
   .ret (.cmp .Eq (.lc false [1] (.var 1) (.name 1) (.over (.var 0)) [(.cmp .NotIn (.var 1) (.con (.str (Str.ofString "abcdefghijklmnopqrstuvwxyz"))))]) (.lst false []))]⟩
def f_law_concept_ok : Fn := ⟨[(Str.ofString "_law_value")], [(Str.ofString "_law_value")],
  [.ife (.or (.not (.isi (.var 0) .tuple)) (.or (.cmp .NotEq (.blt false .len [(.var 0)]) (.con (.int 2))) (.not (.isi (.idx (.var 0) (.con (.int 0))) .str)))) [.ret (.con (.bool false))] [],
   .ret (.and (.cmp .In (.idx (.var 0) (.con (.int 0))) (.tup [(.con (.str (Str.ofString "concept"))), (.con (.str (Str.ofString "out"))), (.con (.str (Str.ofString "in")))])) (.call (Str.ofString "_law_is_word") [(.idx (.var 0) (.con (.int 1)))]))]⟩
def f_law_axiom_ok : Fn := ⟨[(Str.ofString "_law_value")], [(Str.ofString "_law_value")],
  [.ife (.or (.not (.isi (.var 0) .tuple)) (.or (.cmp .Lt (.blt false .len [(.var 0)]) (.con (.int 2))) (.not (.isi (.idx (.var 0) (.con (.int 0))) .str)))) [.ret (.con (.bool false))] [],
   .ife (.cmp .Eq (.idx (.var 0) (.con (.int 0))) (.con (.str (Str.ofString "functional")))) [.ret (.and (.cmp .Eq (.blt false .len [(.var 0)]) (.con (.int 2))) (.and (.call (Str.ofString "_law_concept_ok") [(.idx (.var 0) (.con (.int 1)))]) (.cmp .NotEq (.idx (.idx (.var 0) (.con (.int 1))) (.con (.int 0))) (.con (.str (Str.ofString "concept"))))))] [],
   .ife (.cmp .NotEq (.blt false .len [(.var 0)]) (.con (.int 3))) [.ret (.con (.bool false))] [],
   .ife (.cmp .In (.idx (.var 0) (.con (.int 0))) (.tup [(.con (.str (Str.ofString "subclass"))), (.con (.str (Str.ofString "disjoint")))])) [.ret (.and (.call (Str.ofString "_law_concept_ok") [(.idx (.var 0) (.con (.int 1)))]) (.call (Str.ofString "_law_concept_ok") [(.idx (.var 0) (.con (.int 2)))]))] [],
   .ife (.cmp .NotIn (.idx (.var 0) (.con (.int 0))) (.tup [(.con (.str (Str.ofString "subrole"))), (.con (.str (Str.ofString "subrole_inverse"))), (.con (.str (Str.ofString "disjoint_roles"))), (.con (.str (Str.ofString "disjoint_inverse")))])) [.ret (.con (.bool false))] [],
   .ret (.and (.call (Str.ofString "_law_is_word") [(.idx (.var 0) (.con (.int 1)))]) (.call (Str.ofString "_law_is_word") [(.idx (.var 0) (.con (.int 2)))]))]⟩
def f_law_check : Fn := ⟨[(Str.ofString "_law_value")], [(Str.ofString "_law_value"), (Str.ofString "_law_before"), (Str.ofString "_law_result")],
  [.asg 1 (.blt false .repr [(.var 0)]),
   .asg 2 (.lst false [(.blt false .repr [(.call (Str.ofString "is_concept") [(.var 0)])]), (.blt false .repr [(.call (Str.ofString "is_axiom") [(.var 0)])])]),
   .ret (.and (.cmp .Eq (.var 2) (.lst false [(.blt false .repr [(.call (Str.ofString "_law_concept_ok") [(.var 0)])]), (.blt false .repr [(.call (Str.ofString "_law_axiom_ok") [(.var 0)])])])) (.cmp .Eq (.blt false .repr [(.var 0)]) (.var 1)))]⟩
def f_law_stream : Fn := ⟨[(Str.ofString "_law_script"), (Str.ofString "_law_k")], [(Str.ofString "_law_script"), (Str.ofString "_law_k"), (Str.ofString "_law_cell"), (Str.ofString "_law_size"), (Str.ofString "_law_mixed")],
  [.asg 2 (.con (.int 0)),
   .ife (.cmp .Lt (.var 1) (.blt false .len [(.var 0)])) [.asg 2 (.idx (.var 0) (.var 1))] [],
   .asg 3 (.blt false .max [(.var 2), (.bin false .Sub (.neg (.con (.int 1))) (.var 2))]),
   .asg 4 (.bin false .Mod (.bin false .Mult (.bin false .Add (.bin false .Add (.bin false .Add (.bin false .Mod (.var 3) (.con (.int 2147483629))) (.bin false .Mult (.bin false .Mult (.con (.int 7919)) (.var 1)) (.var 1))) (.bin false .Mult (.con (.int 31)) (.var 1))) (.con (.int 17))) (.con (.int 48271))) (.con (.int 2147483647))),
   .ret (.lst true [(.bin false .Mult (.var 3) (.blt false .int [(.cmp .GtE (.var 3) (.bin false .Pow (.con (.int 10)) (.con (.int 18))))])), (.var 4)])]⟩
def f_law_draw : Fn := ⟨[(Str.ofString "_law_stream_here"), (Str.ofString "_law_count")], [(Str.ofString "_law_stream_here"), (Str.ofString "_law_count"), (Str.ofString "_law_result")],
  [.ife (.cmp .Gt (.idx (.var 0) (.con (.int 0))) (.con (.int 0))) [.asg 2 (.bin false .Mod (.idx (.var 0) (.con (.int 0))) (.var 1)), .set (.var 0) (.con (.int 0)) (.bin false .FloorDiv (.idx (.var 0) (.con (.int 0))) (.var 1)), .ret (.var 2)] [],
   .set (.var 0) (.con (.int 1)) (.bin false .Mod (.bin false .Add (.bin false .Mult (.idx (.var 0) (.con (.int 1))) (.con (.int 69621))) (.con (.int 7))) (.con (.int 2147483647))),
   .ret (.bin false .Mod (.bin false .FloorDiv (.bin false .Mod (.bin false .Mult (.idx (.var 0) (.con (.int 1))) (.idx (.var 0) (.con (.int 1)))) (.con (.int 2147483629))) (.con (.int 32))) (.var 1))]⟩
def f_law_names : Fn := ⟨[(Str.ofString "_law_stream_here")], [(Str.ofString "_law_stream_here"), (Str.ofString "_law_head"), (Str.ofString "_law_concept_names"), (Str.ofString "_law_sign"), (Str.ofString "_law_role_names")],
  [.asg 1 (.idx (.lst false [(.con (.str (Str.ofString ""))), (.con (.str (Str.ofString "k"))), (.con (.str (Str.ofString "zzzzzzz")))]) (.call (Str.ofString "_law_draw") [(.var 0), (.con (.int 3))])),
   .asg 2 (.lc false [3] (.bin false .Add (.var 1) (.var 3)) (.name 3) (.over (.con (.str (Str.ofString "abcd")))) []),
   .asg 4 (.lc false [3] (.bin false .Add (.var 1) (.var 3)) (.name 3) (.over (.con (.str (Str.ofString "rst")))) []),
   .ret (.tup [(.var 2), (.idx (.lst false [(.var 4), (.slice false (.var 2) none (some (.con (.int 3))))]) (.blt false .int [(.cmp .Eq (.call (Str.ofString "_law_draw") [(.var 0), (.con (.int 4))]) (.con (.int 0)))]))])]⟩
def f_law_choose : Fn := ⟨[(Str.ofString "_law_stream_here"), (Str.ofString "_law_items")], [(Str.ofString "_law_stream_here"), (Str.ofString "_law_items")],
  [.ret (.idx (.var 1) (.call (Str.ofString "_law_draw") [(.var 0), (.blt false .len [(.var 1)])]))]⟩
def f_law_concept : Fn := ⟨[(Str.ofString "_law_stream_here"), (Str.ofString "_law_names_here")], [(Str.ofString "_law_stream_here"), (Str.ofString "_law_names_here"), (Str.ofString "_law_word")],
  [.asg 2 (.idx (.lst false [(.con (.str (Str.ofString "concept"))), (.con (.str (Str.ofString "concept"))), (.con (.str (Str.ofString "out"))), (.con (.str (Str.ofString "in")))]) (.call (Str.ofString "_law_draw") [(.var 0), (.con (.int 4))])),
   .ret (.tup [(.var 2), (.call (Str.ofString "_law_choose") [(.var 0), (.idx (.var 1) (.blt false .int [(.cmp .NotEq (.var 2) (.con (.str (Str.ofString "concept"))))]))])])]⟩
def f_law_axiom : Fn := ⟨[(Str.ofString "_law_stream_here"), (Str.ofString "_law_names_here"), (Str.ofString "_law_menu")], [(Str.ofString "_law_stream_here"), (Str.ofString "_law_names_here"), (Str.ofString "_law_menu"), (Str.ofString "_law_word")],
  [.asg 3 (.call (Str.ofString "_law_choose") [(.var 0), (.var 2)]),
   .ife (.or (.cmp .Eq (.var 3) (.con (.str (Str.ofString "subclass")))) (.cmp .Eq (.var 3) (.con (.str (Str.ofString "disjoint"))))) [.ret (.tup [(.var 3), (.call (Str.ofString "_law_concept") [(.var 0), (.var 1)]), (.call (Str.ofString "_law_concept") [(.var 0), (.var 1)])])] [],
   .ife (.cmp .Eq (.var 3) (.con (.str (Str.ofString "functional")))) [.ret (.tup [(.var 3), (.tup [(.idx (.lst false [(.con (.str (Str.ofString "out"))), (.con (.str (Str.ofString "in")))]) (.call (Str.ofString "_law_draw") [(.var 0), (.con (.int 2))])), (.call (Str.ofString "_law_choose") [(.var 0), (.idx (.var 1) (.con (.int 1)))])])])] [],
   .ret (.tup [(.var 3), (.call (Str.ofString "_law_choose") [(.var 0), (.idx (.var 1) (.con (.int 1)))]), (.call (Str.ofString "_law_choose") [(.var 0), (.idx (.var 1) (.con (.int 1)))])])]⟩
def f_law_mutated : Fn := ⟨[(Str.ofString "_law_stream_here"), (Str.ofString "_law_value")], [(Str.ofString "_law_stream_here"), (Str.ofString "_law_value"), (Str.ofString "_law_odd"), (Str.ofString "_law_position"), (Str.ofString "_law_choice")],
  [.asg 2 (.lst false [(.con .none), (.con (.bool true)), (.con (.int 1)), (.con (.str (Str.ofString ""))), (.con (.str (Str.ofString "a b"))), (.con (.str (Str.ofString "A"))), (.con (.str (Str.ofString "abcdefghi"))), (.tup []), (.lst false []), (.dnew), (.lst false [(.con (.str (Str.ofString "out"))), (.con (.str (Str.ofString "r")))]), (.tup [(.con (.str (Str.ofString "concept")))]), (.tup [(.con (.str (Str.ofString "out"))), (.con (.int 1))]), (.tup [(.con (.str (Str.ofString "in"))), (.con (.str (Str.ofString "")))])]),
   .asg 2 (.bin false .Add (.var 2) (.lst false [(.con (.str (Str.ofString "subclass"))), (.con (.str (Str.ofString "functional"))), (.con (.str (Str.ofString "out"))), (.tup [(.con (.str (Str.ofString "out"))), (.con (.str (Str.ofString "r")))]), (.tup [(.con (.str (Str.ofString "concept"))), (.con (.str (Str.ofString "a")))]), (.tup [(.con (.str (Str.ofString "concept"))), (.tup [(.con (.str (Str.ofString "concept"))), (.con (.str (Str.ofString "a")))])])])),
   .asg 3 (.call (Str.ofString "_law_draw") [(.var 0), (.blt false .len [(.var 1)])]),
   .asg 4 (.call (Str.ofString "_law_draw") [(.var 0), (.con (.int 6))]),
   .ife (.cmp .Eq (.var 4) (.con (.int 0))) [.ret (.blt false .list [(.var 1)])] [],
   .ife (.cmp .Eq (.var 4) (.con (.int 1))) [.ret (.bin false .Add (.slice false (.var 1) none (some (.var 3))) (.slice false (.var 1) (some (.bin false .Add (.var 3) (.con (.int 1)))) none))] [],
   .ife (.cmp .Eq (.var 4) (.con (.int 2))) [.ret (.bin false .Add (.var 1) (.tup [(.call (Str.ofString "_law_choose") [(.var 0), (.var 2)])]))] [],
   .ret (.bin false .Add (.bin false .Add (.slice false (.var 1) none (some (.var 3))) (.tup [(.call (Str.ofString "_law_choose") [(.var 0), (.var 2)])])) (.slice false (.var 1) (some (.bin false .Add (.var 3) (.con (.int 1)))) none))]⟩
def f_law : Fn := ⟨[(Str.ofString "_law_script")], [(Str.ofString "_law_script"), (Str.ofString "_law_value"), (Str.ofString "_law_menu"), (Str.ofString "_law_k"), (Str.ofString "_law_stream_here"), (Str.ofString "_law_names_here"), (Str.ofString "_law_turn"), (Str.ofString "_law_last")],
  [.ife (.cmp .NotEq (.lc false [1] (.var 1) (.name 1) (.over (.call (Str.ofString "_law_fixed") [])) [(.not (.call (Str.ofString "_law_check") [(.var 1)]))]) (.lst false [])) [.ret (.con (.bool false))] [],
   .asg 2 (.lst false [(.con (.str (Str.ofString "subclass"))), (.con (.str (Str.ofString "disjoint"))), (.con (.str (Str.ofString "subrole"))), (.con (.str (Str.ofString "subrole_inverse"))), (.con (.str (Str.ofString "disjoint_roles"))), (.con (.str (Str.ofString "disjoint_inverse"))), (.con (.str (Str.ofString "functional")))]),
   .forS (.name 3) (.range1 (.blt false .max [(.con (.int 1)), (.blt false .min [(.con (.int 12)), (.blt false .len [(.var 0)])])])) [.asg 4 (.call (Str.ofString "_law_stream") [(.var 0), (.var 3)]), .asg 5 (.call (Str.ofString "_law_names") [(.var 4)]), .forS (.name 6) (.range1 (.con (.int 6))) [.forS (.name 1) (.over (.lst false [(.call (Str.ofString "_law_concept") [(.var 4), (.var 5)]), (.call (Str.ofString "_law_axiom") [(.var 4), (.var 5), (.var 2)])])) [.ife (.or (.not (.call (Str.ofString "_law_check") [(.var 1)])) (.not (.call (Str.ofString "_law_check") [(.call (Str.ofString "_law_mutated") [(.var 4), (.var 1)])]))) [.ret (.con (.bool false))] [], .asg 7 (.call (Str.ofString "_law_mutated") [(.var 4), (.tup [(.con (.str (Str.ofString "out"))), (.idx (.idx (.var 5) (.con (.int 1))) (.con (.int 0)))])]), .ife (.and (.cmp .In (.idx (.var 1) (.con (.int 0))) (.var 2)) (.not (.call (Str.ofString "_law_check") [(.bin false .Add (.slice false (.var 1) none (some (.neg (.con (.int 1))))) (.tup [(.var 7)]))]))) [.ret (.con (.bool false))] []]]],
   .ret (.con (.bool true))]⟩
abbrev dep : Nat := 30
abbrev wf : Nat := 100000
def inf : Inf := ⟨[(Str.ofString "_law_fixed"), (Str.ofString "is_string_of"), (Str.ofString "is_word"), (Str.ofString "is_direction"), (Str.ofString "is_concept"), (Str.ofString "is_axiom"), (Str.ofString "_law_is_word"), (Str.ofString "_law_concept_ok"), (Str.ofString "_law_axiom_ok"), (Str.ofString "_law_check"), (Str.ofString "_law_stream"), (Str.ofString "_law_draw"), (Str.ofString "_law_names"), (Str.ofString "_law_choose"), (Str.ofString "_law_concept"), (Str.ofString "_law_axiom"), (Str.ofString "_law_mutated"), (Str.ofString "law")], [(Str.ofString "all"), (Str.ofString "int"), (Str.ofString "isinstance"), (Str.ofString "len"), (Str.ofString "list"), (Str.ofString "max"), (Str.ofString "min"), (Str.ofString "range"), (Str.ofString "repr"), (Str.ofString "str"), (Str.ofString "tuple")]⟩
def tbl : Tbl := [((Str.ofString "_law_fixed"), f_law_fixed), ((Str.ofString "is_string_of"), f_is_string_of), ((Str.ofString "is_word"), f_is_word), ((Str.ofString "is_direction"), f_is_direction), ((Str.ofString "is_concept"), f_is_concept), ((Str.ofString "is_axiom"), f_is_axiom), ((Str.ofString "_law_is_word"), f_law_is_word), ((Str.ofString "_law_concept_ok"), f_law_concept_ok), ((Str.ofString "_law_axiom_ok"), f_law_axiom_ok), ((Str.ofString "_law_check"), f_law_check), ((Str.ofString "_law_stream"), f_law_stream), ((Str.ofString "_law_draw"), f_law_draw), ((Str.ofString "_law_names"), f_law_names), ((Str.ofString "_law_choose"), f_law_choose), ((Str.ofString "_law_concept"), f_law_concept), ((Str.ofString "_law_axiom"), f_law_axiom), ((Str.ofString "_law_mutated"), f_law_mutated), ((Str.ofString "law"), f_law)]
def gl : List (Str × A) := [((Str.ofString "DIRECTION_WORDS"), (A.tup [.str (Str.ofString "out"), .str (Str.ofString "in")])), ((Str.ofString "MAX_LENGTH"), (A.int 8)), ((Str.ofString "LETTERS"), (A.str (Str.ofString "abcdefghijklmnopqrstuvwxyz"))), ((Str.ofString "CONCEPT_AXIOMS"), (A.tup [.str (Str.ofString "subclass"), .str (Str.ofString "disjoint")])), ((Str.ofString "ROLE_AXIOMS"), (A.tup [.str (Str.ofString "subrole"), .str (Str.ofString "subrole_inverse"), .str (Str.ofString "disjoint_roles"), .str (Str.ofString "disjoint_inverse")]))]
theorem s_f_law_fixed : FnScope f_law_fixed.ns f_law_fixed.ps (defScope (top 24)) := ⟨rfl, rfl, rfl, by decide +kernel, by decide +kernel, by decide +kernel, by decide +kernel⟩
theorem c_f_law_fixed : chkSs inf f_law_fixed.ns (defScope (top 24)) f_law_fixed.body (defBody (top 24)) = true := by decide +kernel
theorem s_f_is_string_of : FnScope f_is_string_of.ns f_is_string_of.ps (defScope (top 6)) := ⟨rfl, rfl, rfl, by decide +kernel, by decide +kernel, by decide +kernel, by decide +kernel⟩
theorem c_f_is_string_of : chkSs inf f_is_string_of.ns (defScope (top 6)) f_is_string_of.body (defBody (top 6)) = true := by decide +kernel
theorem s_f_is_word : FnScope f_is_word.ns f_is_word.ps (defScope (top 7)) := ⟨rfl, rfl, rfl, by decide +kernel, by decide +kernel, by decide +kernel, by decide +kernel⟩
theorem c_f_is_word : chkSs inf f_is_word.ns (defScope (top 7)) f_is_word.body (defBody (top 7)) = true := by decide +kernel
theorem s_f_is_direction : FnScope f_is_direction.ns f_is_direction.ps (defScope (top 8)) := ⟨rfl, rfl, rfl, by decide +kernel, by decide +kernel, by decide +kernel, by decide +kernel⟩
theorem c_f_is_direction : chkSs inf f_is_direction.ns (defScope (top 8)) f_is_direction.body (defBody (top 8)) = true := by decide +kernel
theorem s_f_is_concept : FnScope f_is_concept.ns f_is_concept.ps (defScope (top 9)) := ⟨rfl, rfl, rfl, by decide +kernel, by decide +kernel, by decide +kernel, by decide +kernel⟩
theorem c_f_is_concept : chkSs inf f_is_concept.ns (defScope (top 9)) f_is_concept.body (defBody (top 9)) = true := by decide +kernel
theorem s_f_is_axiom : FnScope f_is_axiom.ns f_is_axiom.ps (defScope (top 10)) := ⟨rfl, rfl, rfl, by decide +kernel, by decide +kernel, by decide +kernel, by decide +kernel⟩
theorem c_f_is_axiom : chkSs inf f_is_axiom.ns (defScope (top 10)) f_is_axiom.body (defBody (top 10)) = true := by decide +kernel
theorem s_f_law_is_word : FnScope f_law_is_word.ns f_law_is_word.ps (defScope (top 20)) := ⟨rfl, rfl, rfl, by decide +kernel, by decide +kernel, by decide +kernel, by decide +kernel⟩
theorem c_f_law_is_word : chkSs inf f_law_is_word.ns (defScope (top 20)) f_law_is_word.body (defBody (top 20)) = true := by decide +kernel
theorem s_f_law_concept_ok : FnScope f_law_concept_ok.ns f_law_concept_ok.ps (defScope (top 21)) := ⟨rfl, rfl, rfl, by decide +kernel, by decide +kernel, by decide +kernel, by decide +kernel⟩
theorem c_f_law_concept_ok : chkSs inf f_law_concept_ok.ns (defScope (top 21)) f_law_concept_ok.body (defBody (top 21)) = true := by decide +kernel
theorem s_f_law_axiom_ok : FnScope f_law_axiom_ok.ns f_law_axiom_ok.ps (defScope (top 22)) := ⟨rfl, rfl, rfl, by decide +kernel, by decide +kernel, by decide +kernel, by decide +kernel⟩
theorem c_f_law_axiom_ok : chkSs inf f_law_axiom_ok.ns (defScope (top 22)) f_law_axiom_ok.body (defBody (top 22)) = true := by decide +kernel
theorem s_f_law_check : FnScope f_law_check.ns f_law_check.ps (defScope (top 23)) := ⟨rfl, rfl, rfl, by decide +kernel, by decide +kernel, by decide +kernel, by decide +kernel⟩
theorem c_f_law_check : chkSs inf f_law_check.ns (defScope (top 23)) f_law_check.body (defBody (top 23)) = true := by decide +kernel
theorem s_f_law_stream : FnScope f_law_stream.ns f_law_stream.ps (defScope (top 12)) := ⟨rfl, rfl, rfl, by decide +kernel, by decide +kernel, by decide +kernel, by decide +kernel⟩
theorem c_f_law_stream : chkSs inf f_law_stream.ns (defScope (top 12)) f_law_stream.body (defBody (top 12)) = true := by decide +kernel
theorem s_f_law_draw : FnScope f_law_draw.ns f_law_draw.ps (defScope (top 13)) := ⟨rfl, rfl, rfl, by decide +kernel, by decide +kernel, by decide +kernel, by decide +kernel⟩
theorem c_f_law_draw : chkSs inf f_law_draw.ns (defScope (top 13)) f_law_draw.body (defBody (top 13)) = true := by decide +kernel
theorem s_f_law_names : FnScope f_law_names.ns f_law_names.ps (defScope (top 15)) := ⟨rfl, rfl, rfl, by decide +kernel, by decide +kernel, by decide +kernel, by decide +kernel⟩
theorem c_f_law_names : chkSs inf f_law_names.ns (defScope (top 15)) f_law_names.body (defBody (top 15)) = true := by decide +kernel
theorem s_f_law_choose : FnScope f_law_choose.ns f_law_choose.ps (defScope (top 14)) := ⟨rfl, rfl, rfl, by decide +kernel, by decide +kernel, by decide +kernel, by decide +kernel⟩
theorem c_f_law_choose : chkSs inf f_law_choose.ns (defScope (top 14)) f_law_choose.body (defBody (top 14)) = true := by decide +kernel
theorem s_f_law_concept : FnScope f_law_concept.ns f_law_concept.ps (defScope (top 16)) := ⟨rfl, rfl, rfl, by decide +kernel, by decide +kernel, by decide +kernel, by decide +kernel⟩
theorem c_f_law_concept : chkSs inf f_law_concept.ns (defScope (top 16)) f_law_concept.body (defBody (top 16)) = true := by decide +kernel
theorem s_f_law_axiom : FnScope f_law_axiom.ns f_law_axiom.ps (defScope (top 17)) := ⟨rfl, rfl, rfl, by decide +kernel, by decide +kernel, by decide +kernel, by decide +kernel⟩
theorem c_f_law_axiom : chkSs inf f_law_axiom.ns (defScope (top 17)) f_law_axiom.body (defBody (top 17)) = true := by decide +kernel
theorem s_f_law_mutated : FnScope f_law_mutated.ns f_law_mutated.ps (defScope (top 25)) := ⟨rfl, rfl, rfl, by decide +kernel, by decide +kernel, by decide +kernel, by decide +kernel⟩
theorem c_f_law_mutated : chkSs inf f_law_mutated.ns (defScope (top 25)) f_law_mutated.body (defBody (top 25)) = true := by decide +kernel
theorem s_f_law : FnScope f_law.ns f_law.ps (defScope (top 26)) := ⟨rfl, rfl, rfl, by decide +kernel, by decide +kernel, by decide +kernel, by decide +kernel⟩
theorem c_f_law : chkSs inf f_law.ns (defScope (top 26)) f_law.body (defBody (top 26)) = true := by decide +kernel
theorem lk_f_law_fixed : tbl.lookup (Str.ofString "_law_fixed") = some f_law_fixed := lookup_by tbl 0 _ _ rfl (by decide +kernel)
theorem lk_f_is_string_of : tbl.lookup (Str.ofString "is_string_of") = some f_is_string_of := lookup_by tbl 1 _ _ rfl (by decide +kernel)
theorem lk_f_is_word : tbl.lookup (Str.ofString "is_word") = some f_is_word := lookup_by tbl 2 _ _ rfl (by decide +kernel)
theorem lk_f_is_direction : tbl.lookup (Str.ofString "is_direction") = some f_is_direction := lookup_by tbl 3 _ _ rfl (by decide +kernel)
theorem lk_f_is_concept : tbl.lookup (Str.ofString "is_concept") = some f_is_concept := lookup_by tbl 4 _ _ rfl (by decide +kernel)
theorem lk_f_is_axiom : tbl.lookup (Str.ofString "is_axiom") = some f_is_axiom := lookup_by tbl 5 _ _ rfl (by decide +kernel)
theorem lk_f_law_is_word : tbl.lookup (Str.ofString "_law_is_word") = some f_law_is_word := lookup_by tbl 6 _ _ rfl (by decide +kernel)
theorem lk_f_law_concept_ok : tbl.lookup (Str.ofString "_law_concept_ok") = some f_law_concept_ok := lookup_by tbl 7 _ _ rfl (by decide +kernel)
theorem lk_f_law_axiom_ok : tbl.lookup (Str.ofString "_law_axiom_ok") = some f_law_axiom_ok := lookup_by tbl 8 _ _ rfl (by decide +kernel)
theorem lk_f_law_check : tbl.lookup (Str.ofString "_law_check") = some f_law_check := lookup_by tbl 9 _ _ rfl (by decide +kernel)
theorem lk_f_law_stream : tbl.lookup (Str.ofString "_law_stream") = some f_law_stream := lookup_by tbl 10 _ _ rfl (by decide +kernel)
theorem lk_f_law_draw : tbl.lookup (Str.ofString "_law_draw") = some f_law_draw := lookup_by tbl 11 _ _ rfl (by decide +kernel)
theorem lk_f_law_names : tbl.lookup (Str.ofString "_law_names") = some f_law_names := lookup_by tbl 12 _ _ rfl (by decide +kernel)
theorem lk_f_law_choose : tbl.lookup (Str.ofString "_law_choose") = some f_law_choose := lookup_by tbl 13 _ _ rfl (by decide +kernel)
theorem lk_f_law_concept : tbl.lookup (Str.ofString "_law_concept") = some f_law_concept := lookup_by tbl 14 _ _ rfl (by decide +kernel)
theorem lk_f_law_axiom : tbl.lookup (Str.ofString "_law_axiom") = some f_law_axiom := lookup_by tbl 15 _ _ rfl (by decide +kernel)
theorem lk_f_law_mutated : tbl.lookup (Str.ofString "_law_mutated") = some f_law_mutated := lookup_by tbl 16 _ _ rfl (by decide +kernel)
theorem lk_f_law : tbl.lookup (Str.ofString "law") = some f_law := lookup_by tbl 17 _ _ rfl (by decide +kernel)
/-! the head -/
theorem all_mk {K : PySem.W.Frag} {h : Heap} {mg : Str → Option Value} {f0 f1 f2 f3 f4 f5 f6 f7 f8 f9 f10 f11 f12 f13 f14 f15 f16 f17 : Addr} {od0 an0 od1 an1 od2 an2 od3 an3 od4 an4 od5 an5 od6 an6 od7 an7 od8 an8 od9 an9 od10 an10 od11 an11 od12 an12 od13 an13 od14 an14 od15 an15 od16 an16 od17 an17 : Option Addr} {sl0 sl1 sl2 sl3 sl4 sl5 sl6 sl7 sl8 sl9 sl10 sl11 sl12 sl13 sl14 sl15 sl16 sl17 : Array (Option Value)} {oc0 kV0 dc0 pm0 cd0 ct0 oc1 kV1 dc1 pm1 cd1 ct1 oc2 kV2 dc2 pm2 cd2 ct2 oc3 kV3 dc3 pm3 cd3 ct3 oc4 kV4 dc4 pm4 cd4 ct4 oc5 kV5 dc5 pm5 cd5 ct5 oc6 kV6 dc6 pm6 cd6 ct6 oc7 kV7 dc7 pm7 cd7 ct7 oc8 kV8 dc8 pm8 cd8 ct8 oc9 kV9 dc9 pm9 cd9 ct9 oc10 kV10 dc10 pm10 cd10 ct10 oc11 kV11 dc11 pm11 cd11 ct11 oc12 kV12 dc12 pm12 cd12 ct12 oc13 kV13 dc13 pm13 cd13 ct13 oc14 kV14 dc14 pm14 cd14 ct14 oc15 kV15 dc15 pm15 cd15 ct15 oc16 kV16 dc16 pm16 cd16 ct16 oc17 kV17 dc17 pm17 cd17 ct17 : Value} {ga0 : Addr} {god0 : Option Addr} {gits0 : Array Value} {gn0 : Nat} {gsl0 : Array (Option Value)} {t1 : _} {t2 : _} {ga3 : Addr} {god3 : Option Addr} {gits3 : Array Value} {gn3 : Nat} {gsl3 : Array (Option Value)} {ga4 : Addr} {god4 : Option Addr} {gits4 : Array Value} {gn4 : Nat} {gsl4 : Array (Option Value)} (X : K.In h) (G : h.Ns mainGlobals mg)
    (a0 : PySem.W.nsIn K mainGlobals "_law_fixed" = some (some (.ref f0)))
    (l0 : K.lookup f0 = some ⟨oc0, od0, .func (PySem.W.fnOf "_law_fixed" "_law_fixed" (defArgs (top 24)) (defBody (top 24)) (defScope (top 24)) .none kV0 dc0 pm0 an0 cd0 ct0), sl0⟩)
    (c0 : PySem.W.codeIn K cd0 "_law_fixed" = true)
    (k0 : PySem.W.keepIn K (.ref f0) = true)
    (a1 : PySem.W.nsIn K mainGlobals "is_string_of" = some (some (.ref f1)))
    (l1 : K.lookup f1 = some ⟨oc1, od1, .func (PySem.W.fnOf "is_string_of" "is_string_of" (defArgs (top 6)) (defBody (top 6)) (defScope (top 6)) .none kV1 dc1 pm1 an1 cd1 ct1), sl1⟩)
    (c1 : PySem.W.codeIn K cd1 "is_string_of" = true)
    (k1 : PySem.W.keepIn K (.ref f1) = true)
    (a2 : PySem.W.nsIn K mainGlobals "is_word" = some (some (.ref f2)))
    (l2 : K.lookup f2 = some ⟨oc2, od2, .func (PySem.W.fnOf "is_word" "is_word" (defArgs (top 7)) (defBody (top 7)) (defScope (top 7)) .none kV2 dc2 pm2 an2 cd2 ct2), sl2⟩)
    (c2 : PySem.W.codeIn K cd2 "is_word" = true)
    (k2 : PySem.W.keepIn K (.ref f2) = true)
    (a3 : PySem.W.nsIn K mainGlobals "is_direction" = some (some (.ref f3)))
    (l3 : K.lookup f3 = some ⟨oc3, od3, .func (PySem.W.fnOf "is_direction" "is_direction" (defArgs (top 8)) (defBody (top 8)) (defScope (top 8)) .none kV3 dc3 pm3 an3 cd3 ct3), sl3⟩)
    (c3 : PySem.W.codeIn K cd3 "is_direction" = true)
    (k3 : PySem.W.keepIn K (.ref f3) = true)
    (a4 : PySem.W.nsIn K mainGlobals "is_concept" = some (some (.ref f4)))
    (l4 : K.lookup f4 = some ⟨oc4, od4, .func (PySem.W.fnOf "is_concept" "is_concept" (defArgs (top 9)) (defBody (top 9)) (defScope (top 9)) .none kV4 dc4 pm4 an4 cd4 ct4), sl4⟩)
    (c4 : PySem.W.codeIn K cd4 "is_concept" = true)
    (k4 : PySem.W.keepIn K (.ref f4) = true)
    (a5 : PySem.W.nsIn K mainGlobals "is_axiom" = some (some (.ref f5)))
    (l5 : K.lookup f5 = some ⟨oc5, od5, .func (PySem.W.fnOf "is_axiom" "is_axiom" (defArgs (top 10)) (defBody (top 10)) (defScope (top 10)) .none kV5 dc5 pm5 an5 cd5 ct5), sl5⟩)
    (c5 : PySem.W.codeIn K cd5 "is_axiom" = true)
    (k5 : PySem.W.keepIn K (.ref f5) = true)
    (a6 : PySem.W.nsIn K mainGlobals "_law_is_word" = some (some (.ref f6)))
    (l6 : K.lookup f6 = some ⟨oc6, od6, .func (PySem.W.fnOf "_law_is_word" "_law_is_word" (defArgs (top 20)) (defBody (top 20)) (defScope (top 20)) .none kV6 dc6 pm6 an6 cd6 ct6), sl6⟩)
    (c6 : PySem.W.codeIn K cd6 "_law_is_word" = true)
    (k6 : PySem.W.keepIn K (.ref f6) = true)
    (a7 : PySem.W.nsIn K mainGlobals "_law_concept_ok" = some (some (.ref f7)))
    (l7 : K.lookup f7 = some ⟨oc7, od7, .func (PySem.W.fnOf "_law_concept_ok" "_law_concept_ok" (defArgs (top 21)) (defBody (top 21)) (defScope (top 21)) .none kV7 dc7 pm7 an7 cd7 ct7), sl7⟩)
    (c7 : PySem.W.codeIn K cd7 "_law_concept_ok" = true)
    (k7 : PySem.W.keepIn K (.ref f7) = true)
    (a8 : PySem.W.nsIn K mainGlobals "_law_axiom_ok" = some (some (.ref f8)))
    (l8 : K.lookup f8 = some ⟨oc8, od8, .func (PySem.W.fnOf "_law_axiom_ok" "_law_axiom_ok" (defArgs (top 22)) (defBody (top 22)) (defScope (top 22)) .none kV8 dc8 pm8 an8 cd8 ct8), sl8⟩)
    (c8 : PySem.W.codeIn K cd8 "_law_axiom_ok" = true)
    (k8 : PySem.W.keepIn K (.ref f8) = true)
    (a9 : PySem.W.nsIn K mainGlobals "_law_check" = some (some (.ref f9)))
    (l9 : K.lookup f9 = some ⟨oc9, od9, .func (PySem.W.fnOf "_law_check" "_law_check" (defArgs (top 23)) (defBody (top 23)) (defScope (top 23)) .none kV9 dc9 pm9 an9 cd9 ct9), sl9⟩)
    (c9 : PySem.W.codeIn K cd9 "_law_check" = true)
    (k9 : PySem.W.keepIn K (.ref f9) = true)
    (a10 : PySem.W.nsIn K mainGlobals "_law_stream" = some (some (.ref f10)))
    (l10 : K.lookup f10 = some ⟨oc10, od10, .func (PySem.W.fnOf "_law_stream" "_law_stream" (defArgs (top 12)) (defBody (top 12)) (defScope (top 12)) .none kV10 dc10 pm10 an10 cd10 ct10), sl10⟩)
    (c10 : PySem.W.codeIn K cd10 "_law_stream" = true)
    (k10 : PySem.W.keepIn K (.ref f10) = true)
    (a11 : PySem.W.nsIn K mainGlobals "_law_draw" = some (some (.ref f11)))
    (l11 : K.lookup f11 = some ⟨oc11, od11, .func (PySem.W.fnOf "_law_draw" "_law_draw" (defArgs (top 13)) (defBody (top 13)) (defScope (top 13)) .none kV11 dc11 pm11 an11 cd11 ct11), sl11⟩)
    (c11 : PySem.W.codeIn K cd11 "_law_draw" = true)
    (k11 : PySem.W.keepIn K (.ref f11) = true)
    (a12 : PySem.W.nsIn K mainGlobals "_law_names" = some (some (.ref f12)))
    (l12 : K.lookup f12 = some ⟨oc12, od12, .func (PySem.W.fnOf "_law_names" "_law_names" (defArgs (top 15)) (defBody (top 15)) (defScope (top 15)) .none kV12 dc12 pm12 an12 cd12 ct12), sl12⟩)
    (c12 : PySem.W.codeIn K cd12 "_law_names" = true)
    (k12 : PySem.W.keepIn K (.ref f12) = true)
    (a13 : PySem.W.nsIn K mainGlobals "_law_choose" = some (some (.ref f13)))
    (l13 : K.lookup f13 = some ⟨oc13, od13, .func (PySem.W.fnOf "_law_choose" "_law_choose" (defArgs (top 14)) (defBody (top 14)) (defScope (top 14)) .none kV13 dc13 pm13 an13 cd13 ct13), sl13⟩)
    (c13 : PySem.W.codeIn K cd13 "_law_choose" = true)
    (k13 : PySem.W.keepIn K (.ref f13) = true)
    (a14 : PySem.W.nsIn K mainGlobals "_law_concept" = some (some (.ref f14)))
    (l14 : K.lookup f14 = some ⟨oc14, od14, .func (PySem.W.fnOf "_law_concept" "_law_concept" (defArgs (top 16)) (defBody (top 16)) (defScope (top 16)) .none kV14 dc14 pm14 an14 cd14 ct14), sl14⟩)
    (c14 : PySem.W.codeIn K cd14 "_law_concept" = true)
    (k14 : PySem.W.keepIn K (.ref f14) = true)
    (a15 : PySem.W.nsIn K mainGlobals "_law_axiom" = some (some (.ref f15)))
    (l15 : K.lookup f15 = some ⟨oc15, od15, .func (PySem.W.fnOf "_law_axiom" "_law_axiom" (defArgs (top 17)) (defBody (top 17)) (defScope (top 17)) .none kV15 dc15 pm15 an15 cd15 ct15), sl15⟩)
    (c15 : PySem.W.codeIn K cd15 "_law_axiom" = true)
    (k15 : PySem.W.keepIn K (.ref f15) = true)
    (a16 : PySem.W.nsIn K mainGlobals "_law_mutated" = some (some (.ref f16)))
    (l16 : K.lookup f16 = some ⟨oc16, od16, .func (PySem.W.fnOf "_law_mutated" "_law_mutated" (defArgs (top 25)) (defBody (top 25)) (defScope (top 25)) .none kV16 dc16 pm16 an16 cd16 ct16), sl16⟩)
    (c16 : PySem.W.codeIn K cd16 "_law_mutated" = true)
    (k16 : PySem.W.keepIn K (.ref f16) = true)
    (a17 : PySem.W.nsIn K mainGlobals "law" = some (some (.ref f17)))
    (l17 : K.lookup f17 = some ⟨oc17, od17, .func (PySem.W.fnOf "law" "law" (defArgs (top 26)) (defBody (top 26)) (defScope (top 26)) .none kV17 dc17 pm17 an17 cd17 ct17), sl17⟩)
    (c17 : PySem.W.codeIn K cd17 "law" = true)
    (k17 : PySem.W.keepIn K (.ref f17) = true)
    (z0 : PySem.W.nsIn K mainGlobals "all" = some none)
    (z1 : PySem.W.nsIn K mainGlobals "int" = some none)
    (z2 : PySem.W.nsIn K mainGlobals "isinstance" = some none)
    (z3 : PySem.W.nsIn K mainGlobals "len" = some none)
    (z4 : PySem.W.nsIn K mainGlobals "list" = some none)
    (z5 : PySem.W.nsIn K mainGlobals "max" = some none)
    (z6 : PySem.W.nsIn K mainGlobals "min" = some none)
    (z7 : PySem.W.nsIn K mainGlobals "range" = some none)
    (z8 : PySem.W.nsIn K mainGlobals "repr" = some none)
    (z9 : PySem.W.nsIn K mainGlobals "str" = some none)
    (z10 : PySem.W.nsIn K mainGlobals "tuple" = some none)
    (g0 : PySem.W.nsIn K mainGlobals "DIRECTION_WORDS" = some (some (.ref ga0)))
    (gl0 : K.lookup ga0 = some ⟨.type "tuple", god0, .seq gits0 gn0, gsl0⟩)
    (gz0 : gits0.size ≤ sizeLine)
    (gv0 : Vals ([.str (Str.ofString "out"), .str (Str.ofString "in")] : List V) gits0.toList)
    (g1 : PySem.W.nsIn K mainGlobals "MAX_LENGTH" = some (some (.int 8 t1)))
    (g2 : PySem.W.nsIn K mainGlobals "LETTERS" = some (some (.str (Str.ofString "abcdefghijklmnopqrstuvwxyz") t2)))
    (g3 : PySem.W.nsIn K mainGlobals "CONCEPT_AXIOMS" = some (some (.ref ga3)))
    (gl3 : K.lookup ga3 = some ⟨.type "tuple", god3, .seq gits3 gn3, gsl3⟩)
    (gz3 : gits3.size ≤ sizeLine)
    (gv3 : Vals ([.str (Str.ofString "subclass"), .str (Str.ofString "disjoint")] : List V) gits3.toList)
    (g4 : PySem.W.nsIn K mainGlobals "ROLE_AXIOMS" = some (some (.ref ga4)))
    (gl4 : K.lookup ga4 = some ⟨.type "tuple", god4, .seq gits4 gn4, gsl4⟩)
    (gz4 : gits4.size ≤ sizeLine)
    (gv4 : Vals ([.str (Str.ofString "subrole"), .str (Str.ofString "subrole_inverse"), .str (Str.ofString "disjoint_roles"), .str (Str.ofString "disjoint_inverse")] : List V) gits4.toList) :
    (∀ f ∈ inf.fns, ∃ d, tbl.lookup f = some d ∧ FnFact K mg inf f d) ∧ (∀ b ∈ inf.bs, mg b = none) ∧ ∀ x a, gl.lookup x = some a → GlobRep K mg x a := by
  have F0 := fun_mk (st := (top 24)) l0 c0 k0
  have b0 := F0.binds (ps := f_law_fixed.ps) fun _ _ _ _ _ _ us hl => match us, hl with | [], _ => rfl
  have F1 := fun_mk (st := (top 6)) l1 c1 k1
  have b1 := F1.binds (ps := f_is_string_of.ps) fun _ _ _ _ _ _ us hl => match us, hl with | [_, _], _ => rfl
  have F2 := fun_mk (st := (top 7)) l2 c2 k2
  have b2 := F2.binds (ps := f_is_word.ps) fun _ _ _ _ _ _ us hl => match us, hl with | [_], _ => rfl
  have F3 := fun_mk (st := (top 8)) l3 c3 k3
  have b3 := F3.binds (ps := f_is_direction.ps) fun _ _ _ _ _ _ us hl => match us, hl with | [_], _ => rfl
  have F4 := fun_mk (st := (top 9)) l4 c4 k4
  have b4 := F4.binds (ps := f_is_concept.ps) fun _ _ _ _ _ _ us hl => match us, hl with | [_], _ => rfl
  have F5 := fun_mk (st := (top 10)) l5 c5 k5
  have b5 := F5.binds (ps := f_is_axiom.ps) fun _ _ _ _ _ _ us hl => match us, hl with | [_], _ => rfl
  have F6 := fun_mk (st := (top 20)) l6 c6 k6
  have b6 := F6.binds (ps := f_law_is_word.ps) fun _ _ _ _ _ _ us hl => match us, hl with | [_], _ => rfl
  have F7 := fun_mk (st := (top 21)) l7 c7 k7
  have b7 := F7.binds (ps := f_law_concept_ok.ps) fun _ _ _ _ _ _ us hl => match us, hl with | [_], _ => rfl
  have F8 := fun_mk (st := (top 22)) l8 c8 k8
  have b8 := F8.binds (ps := f_law_axiom_ok.ps) fun _ _ _ _ _ _ us hl => match us, hl with | [_], _ => rfl
  have F9 := fun_mk (st := (top 23)) l9 c9 k9
  have b9 := F9.binds (ps := f_law_check.ps) fun _ _ _ _ _ _ us hl => match us, hl with | [_], _ => rfl
  have F10 := fun_mk (st := (top 12)) l10 c10 k10
  have b10 := F10.binds (ps := f_law_stream.ps) fun _ _ _ _ _ _ us hl => match us, hl with | [_, _], _ => rfl
  have F11 := fun_mk (st := (top 13)) l11 c11 k11
  have b11 := F11.binds (ps := f_law_draw.ps) fun _ _ _ _ _ _ us hl => match us, hl with | [_, _], _ => rfl
  have F12 := fun_mk (st := (top 15)) l12 c12 k12
  have b12 := F12.binds (ps := f_law_names.ps) fun _ _ _ _ _ _ us hl => match us, hl with | [_], _ => rfl
  have F13 := fun_mk (st := (top 14)) l13 c13 k13
  have b13 := F13.binds (ps := f_law_choose.ps) fun _ _ _ _ _ _ us hl => match us, hl with | [_, _], _ => rfl
  have F14 := fun_mk (st := (top 16)) l14 c14 k14
  have b14 := F14.binds (ps := f_law_concept.ps) fun _ _ _ _ _ _ us hl => match us, hl with | [_, _], _ => rfl
  have F15 := fun_mk (st := (top 17)) l15 c15 k15
  have b15 := F15.binds (ps := f_law_axiom.ps) fun _ _ _ _ _ _ us hl => match us, hl with | [_, _, _], _ => rfl
  have F16 := fun_mk (st := (top 25)) l16 c16 k16
  have b16 := F16.binds (ps := f_law_mutated.ps) fun _ _ _ _ _ _ us hl => match us, hl with | [_, _], _ => rfl
  have F17 := fun_mk (st := (top 26)) l17 c17 k17
  have b17 := F17.binds (ps := f_law.ps) fun _ _ _ _ _ _ us hl => match us, hl with | [_], _ => rfl
  refine ⟨fun f hf => ?_, fun b hb => ?_, fun x a e => ?_⟩
  · simp only [inf, List.mem_cons, List.not_mem_nil, or_false] at hf
    rcases hf with rfl | rfl | rfl | rfl | rfl | rfl | rfl | rfl | rfl | rfl | rfl | rfl | rfl | rfl | rfl | rfl | rfl | rfl
    · exact ⟨f_law_fixed, lk_f_law_fixed, ⟨f0, _, top 24, PySem.W.mg_of X G a0, F0, b0, s_f_law_fixed, c_f_law_fixed⟩⟩
    · exact ⟨f_is_string_of, lk_f_is_string_of, ⟨f1, _, top 6, PySem.W.mg_of X G a1, F1, b1, s_f_is_string_of, c_f_is_string_of⟩⟩
    · exact ⟨f_is_word, lk_f_is_word, ⟨f2, _, top 7, PySem.W.mg_of X G a2, F2, b2, s_f_is_word, c_f_is_word⟩⟩
    · exact ⟨f_is_direction, lk_f_is_direction, ⟨f3, _, top 8, PySem.W.mg_of X G a3, F3, b3, s_f_is_direction, c_f_is_direction⟩⟩
    · exact ⟨f_is_concept, lk_f_is_concept, ⟨f4, _, top 9, PySem.W.mg_of X G a4, F4, b4, s_f_is_concept, c_f_is_concept⟩⟩
    · exact ⟨f_is_axiom, lk_f_is_axiom, ⟨f5, _, top 10, PySem.W.mg_of X G a5, F5, b5, s_f_is_axiom, c_f_is_axiom⟩⟩
    · exact ⟨f_law_is_word, lk_f_law_is_word, ⟨f6, _, top 20, PySem.W.mg_of X G a6, F6, b6, s_f_law_is_word, c_f_law_is_word⟩⟩
    · exact ⟨f_law_concept_ok, lk_f_law_concept_ok, ⟨f7, _, top 21, PySem.W.mg_of X G a7, F7, b7, s_f_law_concept_ok, c_f_law_concept_ok⟩⟩
    · exact ⟨f_law_axiom_ok, lk_f_law_axiom_ok, ⟨f8, _, top 22, PySem.W.mg_of X G a8, F8, b8, s_f_law_axiom_ok, c_f_law_axiom_ok⟩⟩
    · exact ⟨f_law_check, lk_f_law_check, ⟨f9, _, top 23, PySem.W.mg_of X G a9, F9, b9, s_f_law_check, c_f_law_check⟩⟩
    · exact ⟨f_law_stream, lk_f_law_stream, ⟨f10, _, top 12, PySem.W.mg_of X G a10, F10, b10, s_f_law_stream, c_f_law_stream⟩⟩
    · exact ⟨f_law_draw, lk_f_law_draw, ⟨f11, _, top 13, PySem.W.mg_of X G a11, F11, b11, s_f_law_draw, c_f_law_draw⟩⟩
    · exact ⟨f_law_names, lk_f_law_names, ⟨f12, _, top 15, PySem.W.mg_of X G a12, F12, b12, s_f_law_names, c_f_law_names⟩⟩
    · exact ⟨f_law_choose, lk_f_law_choose, ⟨f13, _, top 14, PySem.W.mg_of X G a13, F13, b13, s_f_law_choose, c_f_law_choose⟩⟩
    · exact ⟨f_law_concept, lk_f_law_concept, ⟨f14, _, top 16, PySem.W.mg_of X G a14, F14, b14, s_f_law_concept, c_f_law_concept⟩⟩
    · exact ⟨f_law_axiom, lk_f_law_axiom, ⟨f15, _, top 17, PySem.W.mg_of X G a15, F15, b15, s_f_law_axiom, c_f_law_axiom⟩⟩
    · exact ⟨f_law_mutated, lk_f_law_mutated, ⟨f16, _, top 25, PySem.W.mg_of X G a16, F16, b16, s_f_law_mutated, c_f_law_mutated⟩⟩
    · exact ⟨f_law, lk_f_law, ⟨f17, _, top 26, PySem.W.mg_of X G a17, F17, b17, s_f_law, c_f_law⟩⟩
  · simp only [inf, List.mem_cons, List.not_mem_nil, or_false] at hb
    rcases hb with rfl | rfl | rfl | rfl | rfl | rfl | rfl | rfl | rfl | rfl | rfl
    · exact PySem.W.mg_none_of X G z0
    · exact PySem.W.mg_none_of X G z1
    · exact PySem.W.mg_none_of X G z2
    · exact PySem.W.mg_none_of X G z3
    · exact PySem.W.mg_none_of X G z4
    · exact PySem.W.mg_none_of X G z5
    · exact PySem.W.mg_none_of X G z6
    · exact PySem.W.mg_none_of X G z7
    · exact PySem.W.mg_none_of X G z8
    · exact PySem.W.mg_none_of X G z9
    · exact PySem.W.mg_none_of X G z10
  · refine glob_all (l := gl) ?_ x a e
    intro q hq
    simp only [gl, List.mem_cons, List.not_mem_nil, or_false] at hq
    rcases hq with rfl | rfl | rfl | rfl | rfl
    · exact glob_tup [(Str.ofString "out"), (Str.ofString "in")] (PySem.W.mg_of X G g0) gl0 gz0 gv0
    · exact glob_int (PySem.W.mg_of X G g1)
    · exact glob_str (PySem.W.mg_of X G g2)
    · exact glob_tup [(Str.ofString "subclass"), (Str.ofString "disjoint")] (PySem.W.mg_of X G g3) gl3 gz3 gv3
    · exact glob_tup [(Str.ofString "subrole"), (Str.ofString "subrole_inverse"), (Str.ofString "disjoint_roles"), (Str.ofString "disjoint_inverse")] (PySem.W.mg_of X G g4) gl4 gz4 gv4
theorem walk {l : PySem.W.OpenLaw} {q : Program} {loose : List Str} {XP : (Str → Option Value) → Heap → Prop} {YP : World → Heap → Prop} {d : DefRec} {K : Params → PySem.W.Frag} (hn : l.most = some 63) (hdf : d.params.defaults = []) (hnm : d.name = Str.ofString "law")
    (hY : ∀ (w : World) (h : Heap), YP w h → (K w.params).In h)
    (F : ∀ (w : World) (mg : Str → Option Value) (h : Heap), (K w.params).In h → h.Ns mainGlobals mg →
      (∀ f ∈ inf.fns, ∃ d, tbl.lookup f = some d ∧ FnFact (K w.params) mg inf f d) ∧ (∀ b ∈ inf.bs, mg b = none) ∧ ∀ x a, gl.lookup x = some a → GlobRep (K w.params) mg x a)
    (hrun : ∀ ns : List Int, ns.length ≤ 63 → ∃ M, runF wf tbl (fun x => gl.lookup x) (dep + 1) (Str.ofString "law") [scriptA ns] [] = .ok (.bl true) M) :
    PySem.W.WalkO q loose XP YP l.row.toRowW d [] (fun f vs => PySem.call f vs) :=
  walk_mp (n := 63) (k := dep) (wf := wf) (x := (Str.ofString "_law_script")) inf tbl (fun x => gl.lookup x) f_law hn (by decide) hdf ⟨rfl, by decide, by decide⟩ hY (by rw [hnm]; exact lk_f_law) rfl (by rw [hnm]; decide +kernel) F (by rw [hnm]; exact hrun)
end K01

namespace K01
open PySem PySem.Spec PyProof.Rows L2 MP
abbrev G0 : Str → Option A := fun x => gl.lookup x
abbrev R (k : Nat) := runF wf tbl G0 k
theorem run_def {f : Str} {d : Fn} (h : tbl.lookup f = some d) (k : Nat) (xs : List A) (M : Mem) : R (k + 1) f xs M = if xs.length = d.ps.length then retOf (evSs ⟨R k, G0, wf⟩ d.body (startA d.ns.length xs) M) else .stuck := by
  simp only [R, runF, h]
theorem lcL_eq {f : A → Mem → Out (Option A)} {g : A → Option A} {M : Mem} : ∀ xs : List A, (∀ x ∈ xs, f x M = .ok (g x) M) → lcL f xs M = .ok (xs.filterMap g) M
  | [], _ => rfl
  | x :: xs, h => by
    simp only [lcL, h x List.mem_cons_self, Out.bind_ok, lcL_eq xs fun y hy => h y (List.mem_cons_of_mem _ hy)]
    cases e : g x <;> simp [List.filterMap_cons, e]
def letters : Str := Str.ofString "abcdefghijklmnopqrstuvwxyz"
theorem g_letters : G0 (Str.ofString "LETTERS") = some (.str letters) := lookup_by gl 2 _ _ rfl (by decide +kernel)
theorem g_max : G0 (Str.ofString "MAX_LENGTH") = some (.int 8) := lookup_by gl 1 _ _ rfl (by decide +kernel)
/-- a word -/
def isW : A → Bool
  | .str s => decide (1 ≤ s.length) && decide (s.length ≤ 8) && s.cps.toList.all fun c => decide (c ∈ letters.cps.toList)
  | _ => false
/-- a tree with short texts -/
def tr : A → Bool
  | .str s => decide (s.length ≤ 16) && s.cps.toList.all fun c => decide (c < 128)
  | .ref _ => false
  | _ => true
theorem small16 {n : Nat} (h : n ≤ 16) : n ≤ sizeLine := Nat.le_trans h (by decide)
theorem allBl_map (l : List Nat) (p : Nat → Bool) : allBl (l.map fun c => A.bl (p c)) = some (l.map p) := by
  induction l with
  | nil => rfl
  | cons c l ih => simp [allBl, ih]
def chA : A → Nat
  | .str z => z.cps.getD 0 0
  | _ => 0
theorem fm_bl (l : List Nat) (p : Nat → Bool) : allBl ((l.map fun c => A.str ⟨#[c]⟩).filterMap fun x => some (A.bl (p (chA x)))) = some (l.map p) := by
  induction l with
  | nil => rfl
  | cons c l ih => simp only [List.map_cons, List.filterMap_cons, allBl, ih, Option.map_some]; rfl
theorem r_is_string_of (k : Nat) (M : Mem) (v : A) (hv : tr v = true) : R (k + 1) (Str.ofString "is_string_of") [v, .str letters] M = .ok (.bl (isW v)) M := by
  rw [run_def lk_f_is_string_of]
  cases v with
  | str s =>
    have hs16 : s.length ≤ 16 := by
      simp only [tr, Bool.and_eq_true, decide_eq_true_eq] at hv
      exact hv.1
    have hs : s.length ≤ sizeLine := small16 hs16
    by_cases h1 : 1 ≤ s.length
    · by_cases h2 : s.length ≤ 8
      · have h1' : (1 : Int) ≤ (s.length : Int) := by omega
        have h2' : (s.length : Int) ≤ 8 := by omega
        simp [evSs, evS, evE, evEs, evT, evTs, evO, evI, retOf, startA, cA, isiA, tyA, isiT, outB, outT, outV, outI, truA, one?, ints2?, bltA, blt1, blt2, toIntA, idxA, asSeq, asL, cmpB, ltA, ltI, f_is_string_of, g_max, lenA, hs, h1', h2', itemsOf]
        rw [lcL_eq (g := fun x => some (A.bl (decide (chA x ∈ letters.cps.toList))))]
        · have hl : s.cps.toList.length = s.length := by simp [Str.length]
          have hf : ((List.map (fun c => A.str { cps := #[c] }) s.cps.toList).filterMap fun x => some (A.bl (decide (chA x ∈ letters.cps.toList)))).length ≤ sizeLine := by
            refine Nat.le_trans (List.length_filterMap_le _ _) ?_
            rw [List.length_map, hl]; exact hs
          have e := fm_bl s.cps.toList fun c => decide (c ∈ letters.cps.toList)
          have ew : isW (.str s) = (s.cps.toList.map fun c => decide (c ∈ letters.cps.toList)).all id := by
            simp [isW, h1, h2]
          generalize (List.filterMap (fun x => some (A.bl (decide (chA x ∈ letters.cps.toList)))) (List.map (fun c => A.str { cps := #[c] }) s.cps.toList)) = L at e hf ⊢
          rw [ew]
          generalize s.cps.toList.map (fun c => decide (c ∈ letters.cps.toList)) = bs at *
          simp [finL, hf, e, ew]
        · intro x hx
          simp only [List.mem_map] at hx
          obtain ⟨c, _, rfl⟩ := hx
          simp [evSs, evS, evE, evEs, evT, evTs, evO, evI, retOf, startA, cA, isiA, tyA, isiT, outB, outT, outV, outI, truA, one?, ints2?, bltA, blt1, blt2, toIntA, idxA, asSeq, asL, cmpB, ltA, ltI, bindT, wipeA, inA, inStr, chA]
      · have h1' : (1 : Int) ≤ (s.length : Int) := by omega
        have h2' : ¬ (s.length : Int) ≤ 8 := by omega
        simp [evSs, evS, evE, evEs, evT, evTs, evO, evI, retOf, startA, cA, isiA, tyA, isiT, outB, outT, outV, outI, truA, one?, ints2?, bltA, blt1, blt2, toIntA, idxA, asSeq, asL, cmpB, ltA, ltI, f_is_string_of, g_max, lenA, hs, h1', h2', itemsOf, isW, h1, h2]
    · have h1' : ¬ (1 : Int) ≤ (s.length : Int) := by omega
      simp [evSs, evS, evE, evEs, evT, evTs, evO, evI, retOf, startA, cA, isiA, tyA, isiT, outB, outT, outV, outI, truA, one?, ints2?, bltA, blt1, blt2, toIntA, idxA, asSeq, asL, cmpB, ltA, ltI, f_is_string_of, g_max, lenA, hs, h1', itemsOf, isW, h1]
  | non => simp [evSs, evS, evE, evEs, evT, evTs, evO, evI, retOf, startA, cA, isiA, tyA, isiT, outB, outT, outV, outI, truA, one?, ints2?, bltA, blt1, blt2, toIntA, idxA, asSeq, asL, cmpB, ltA, ltI, f_is_string_of, isW]
  | bl b => simp [evSs, evS, evE, evEs, evT, evTs, evO, evI, retOf, startA, cA, isiA, tyA, isiT, outB, outT, outV, outI, truA, one?, ints2?, bltA, blt1, blt2, toIntA, idxA, asSeq, asL, cmpB, ltA, ltI, f_is_string_of, isW]
  | int b => simp [evSs, evS, evE, evEs, evT, evTs, evO, evI, retOf, startA, cA, isiA, tyA, isiT, outB, outT, outV, outI, truA, one?, ints2?, bltA, blt1, blt2, toIntA, idxA, asSeq, asL, cmpB, ltA, ltI, f_is_string_of, isW]
  | tup b => simp [evSs, evS, evE, evEs, evT, evTs, evO, evI, retOf, startA, cA, isiA, tyA, isiT, outB, outT, outV, outI, truA, one?, ints2?, bltA, blt1, blt2, toIntA, idxA, asSeq, asL, cmpB, ltA, ltI, f_is_string_of, isW]
  | lst b => simp [evSs, evS, evE, evEs, evT, evTs, evO, evI, retOf, startA, cA, isiA, tyA, isiT, outB, outT, outV, outI, truA, one?, ints2?, bltA, blt1, blt2, toIntA, idxA, asSeq, asL, cmpB, ltA, ltI, f_is_string_of, isW]
  | dct b => simp [evSs, evS, evE, evEs, evT, evTs, evO, evI, retOf, startA, cA, isiA, tyA, isiT, outB, outT, outV, outI, truA, one?, ints2?, bltA, blt1, blt2, toIntA, idxA, asSeq, asL, cmpB, ltA, ltI, f_is_string_of, isW]
  | ref b => simp [tr] at hv
theorem r_is_word (k : Nat) (M : Mem) (v : A) (hv : tr v = true) : R (k + 2) (Str.ofString "is_word") [v] M = .ok (.bl (isW v)) M := by
  rw [run_def lk_f_is_word]
  simp [evSs, evS, evE, evEs, evT, evTs, evO, evI, retOf, startA, cA, isiA, tyA, isiT, outB, outT, outV, outI, truA, one?, ints2?, bltA, blt1, blt2, toIntA, idxA, asSeq, asL, cmpB, ltA, ltI, f_is_word, g_letters, r_is_string_of k M v hv]
def tr1 (v : A) : Bool := tr v && match v with
  | .tup xs => xs.all tr
  | _ => true
def tr2 (v : A) : Bool := tr v && match v with
  | .tup xs => xs.all tr1
  | _ => true
abbrev tOut : Str := Str.ofString "out"
abbrev tIn : Str := Str.ofString "in"
abbrev tCon : Str := Str.ofString "concept"
abbrev tFun : Str := Str.ofString "functional"
theorem g_dir : G0 (Str.ofString "DIRECTION_WORDS") = some (.tup [.str tOut, .str tIn]) := lookup_by gl 0 _ _ rfl (by decide +kernel)
theorem g_ca : G0 (Str.ofString "CONCEPT_AXIOMS") = some (.tup [.str (Str.ofString "subclass"), .str (Str.ofString "disjoint")]) := lookup_by gl 3 _ _ rfl (by decide +kernel)
theorem g_ra : G0 (Str.ofString "ROLE_AXIOMS") = some (.tup [.str (Str.ofString "subrole"), .str (Str.ofString "subrole_inverse"), .str (Str.ofString "disjoint_roles"), .str (Str.ofString "disjoint_inverse")]) := lookup_by gl 4 _ _ rfl (by decide +kernel)
def isDir : A → Bool
  | .tup [.str w, x] => (decide (tOut = w) || decide (tIn = w)) && isW x
  | _ => false
def isCon : A → Bool
  | .tup [.str w, x] => (decide (tCon = w) || (decide (tOut = w) || decide (tIn = w))) && isW x
  | _ => false
def isCA (w : Str) : Bool := decide (Str.ofString "subclass" = w) || decide (Str.ofString "disjoint" = w)
def isRA (w : Str) : Bool := decide (Str.ofString "subrole" = w) || (decide (Str.ofString "subrole_inverse" = w) || (decide (Str.ofString "disjoint_roles" = w) || decide (Str.ofString "disjoint_inverse" = w)))
def isAx : A → Bool
  | .tup [.str w, x] => decide (tFun = w) && isDir x
  | .tup [.str w, x, y] => if isCA w = true then isCon x && isCon y else isRA w && (isW x && isW y)
  | _ => false
theorem in_dir (w : Str) (M : Mem) : inA (.str w) (.tup [.str tOut, .str tIn]) M = some (decide (tOut = w) || decide (tIn = w)) := by
  simp [inA, inSeq, asSeq, flatA, eqF]
  constructor <;> rfl
theorem eq_str (a b : Str) (M : Mem) : eqA (.str a) (.str b) M = some (decide (b = a)) := by
  simp [eqA, scalA, scalEq, eq_comm]
theorem eq_int (a b : Int) (M : Mem) : eqA (.int a) (.int b) M = some (decide (a = b)) := by
  simp [eqA, scalA, scalEq]
theorem len_tup (xs : List A) (M : Mem) : lenA (.tup xs) M = some xs.length := rfl
theorem at0 (a : A) (r : List A) : L2.atI (a :: r) 0 = some a := by
  simp [L2.atI, L2.ixN]
theorem at1 (a b : A) (r : List A) : L2.atI (a :: b :: r) 1 = some b := by
  have h : (1 : Int) < (r.length : Int) + 1 + 1 := by omega
  simp [L2.atI, L2.ixN, h]
theorem at2 (a b c : A) (r : List A) : L2.atI (a :: b :: c :: r) 2 = some c := by
  have h : (2 : Int) < (r.length : Int) + 1 + 1 + 1 := by omega
  simp [L2.atI, L2.ixN, h]
theorem r_is_direction (k : Nat) (M : Mem) (v : A) (hv : tr1 v = true) : R (k + 3) (Str.ofString "is_direction") [v] M = .ok (.bl (isDir v)) M := by
  rw [run_def lk_f_is_direction]
  cases v with
  | tup xs =>
    rcases xs with _ | ⟨a, _ | ⟨b, _ | ⟨c, r⟩⟩⟩
    · simp [evSs, evS, evE, evEs, evT, evTs, evO, evI, retOf, startA, cA, isiA, tyA, isiT, outB, outT, outV, outI, truA, one?, ints2?, bltA, blt1, blt2, toIntA, idxA, asSeq, asL, cmpB, ltA, ltI, f_is_direction, isDir, len_tup, eq_int]
    · simp [evSs, evS, evE, evEs, evT, evTs, evO, evI, retOf, startA, cA, isiA, tyA, isiT, outB, outT, outV, outI, truA, one?, ints2?, bltA, blt1, blt2, toIntA, idxA, asSeq, asL, cmpB, ltA, ltI, f_is_direction, isDir, len_tup, eq_int]
    · have hb : tr b = true := by
        simp [tr1] at hv
        exact hv.2.2
      cases a with
      | str w =>
        simp [evSs, evS, evE, evEs, evT, evTs, evO, evI, retOf, startA, cA, isiA, tyA, isiT, outB, outT, outV, outI, truA, one?, ints2?, bltA, blt1, blt2, toIntA, idxA, asSeq, asL, cmpB, ltA, ltI, f_is_direction, isDir, len_tup, eq_int, at0, at1, g_dir, in_dir]
        generalize (decide (tOut = w) || decide (tIn = w)) = q
        cases q <;> simp [r_is_word k M b hb]
      | ref n => simp [tr1, tr] at hv
      | _ => simp [evSs, evS, evE, evEs, evT, evTs, evO, evI, retOf, startA, cA, isiA, tyA, isiT, outB, outT, outV, outI, truA, one?, ints2?, bltA, blt1, blt2, toIntA, idxA, asSeq, asL, cmpB, ltA, ltI, f_is_direction, isDir, len_tup, eq_int, at0]
    · have h2 : ¬ ((r.length : Int) + 1 + 1 + 1 = 2) := by omega
      simp [evSs, evS, evE, evEs, evT, evTs, evO, evI, retOf, startA, cA, isiA, tyA, isiT, outB, outT, outV, outI, truA, one?, ints2?, bltA, blt1, blt2, toIntA, idxA, asSeq, asL, cmpB, ltA, ltI, f_is_direction, isDir, len_tup, eq_int, h2]
  | ref n => simp [tr1, tr] at hv
  | _ => simp [evSs, evS, evE, evEs, evT, evTs, evO, evI, retOf, startA, cA, isiA, tyA, isiT, outB, outT, outV, outI, truA, one?, ints2?, bltA, blt1, blt2, toIntA, idxA, asSeq, asL, cmpB, ltA, ltI, f_is_direction, isDir]
theorem dir_con (v : A) (h : isDir v = true) : isCon v = true := by
  unfold isDir at h
  split at h
  · simp only [Bool.and_eq_true] at h
    simp only [isCon, h.1, h.2, Bool.or_true, Bool.and_true]
  · exact Bool.noConfusion h
theorem r_is_concept (k : Nat) (M : Mem) (v : A) (hv : tr1 v = true) : R (k + 4) (Str.ofString "is_concept") [v] M = .ok (.bl (isCon v)) M := by
  rw [run_def lk_f_is_concept]
  cases hd : isDir v with
  | true => simp [evSs, evS, evE, evEs, evT, evTs, evO, evI, retOf, startA, cA, isiA, tyA, isiT, outB, outT, outV, outI, truA, one?, ints2?, bltA, blt1, blt2, toIntA, idxA, asSeq, asL, cmpB, ltA, ltI, f_is_concept, r_is_direction k M v hv, hd, dir_con v hd]
  | false =>
    cases v with
    | tup xs =>
      rcases xs with _ | ⟨a, _ | ⟨b, _ | ⟨c, r⟩⟩⟩
      · simp [evSs, evS, evE, evEs, evT, evTs, evO, evI, retOf, startA, cA, isiA, tyA, isiT, outB, outT, outV, outI, truA, one?, ints2?, bltA, blt1, blt2, toIntA, idxA, asSeq, asL, cmpB, ltA, ltI, f_is_concept, r_is_direction k M _ hv, hd, isCon, len_tup, eq_int]
      · simp [evSs, evS, evE, evEs, evT, evTs, evO, evI, retOf, startA, cA, isiA, tyA, isiT, outB, outT, outV, outI, truA, one?, ints2?, bltA, blt1, blt2, toIntA, idxA, asSeq, asL, cmpB, ltA, ltI, f_is_concept, r_is_direction k M _ hv, hd, isCon, len_tup, eq_int]
      · have hb : tr b = true := by
          simp [tr1] at hv
          exact hv.2.2
        cases a with
        | str w =>
          have hc : isCon (.tup [.str w, b]) = (decide (tCon = w) && isW b) := by
            simp only [isDir] at hd
            simp only [isCon]
            revert hd
            cases isW b
            · simp
            · simp only [Bool.and_true]
              intro hd
              rw [hd, Bool.or_false]
          simp [evSs, evS, evE, evEs, evT, evTs, evO, evI, retOf, startA, cA, isiA, tyA, isiT, outB, outT, outV, outI, truA, one?, ints2?, bltA, blt1, blt2, toIntA, idxA, asSeq, asL, cmpB, ltA, ltI, f_is_concept, r_is_direction k M _ hv, hd, hc, len_tup, eq_int, at0, at1, eq_str]
          by_cases hw : tCon = w
          · simp [hw, r_is_word (k + 1) M b hb]
          · simp [hw]
        | ref n => simp [tr1, tr] at hv
        | _ => simp [evSs, evS, evE, evEs, evT, evTs, evO, evI, retOf, startA, cA, isiA, tyA, isiT, outB, outT, outV, outI, truA, one?, ints2?, bltA, blt1, blt2, toIntA, idxA, asSeq, asL, cmpB, ltA, ltI, f_is_concept, r_is_direction k M _ hv, hd, isCon, len_tup, eq_int, at0]
      · have h2 : ¬ ((r.length : Int) + 1 + 1 + 1 = 2) := by omega
        simp [evSs, evS, evE, evEs, evT, evTs, evO, evI, retOf, startA, cA, isiA, tyA, isiT, outB, outT, outV, outI, truA, one?, ints2?, bltA, blt1, blt2, toIntA, idxA, asSeq, asL, cmpB, ltA, ltI, f_is_concept, r_is_direction k M _ hv, hd, isCon, len_tup, eq_int, h2]
    | ref n => simp [tr1, tr] at hv
    | _ => simp [evSs, evS, evE, evEs, evT, evTs, evO, evI, retOf, startA, cA, isiA, tyA, isiT, outB, outT, outV, outI, truA, one?, ints2?, bltA, blt1, blt2, toIntA, idxA, asSeq, asL, cmpB, ltA, ltI, f_is_concept, r_is_direction k M _ hv, hd, isCon]
theorem in_ca (w : Str) (M : Mem) : inA (.str w) (.tup [.str (Str.ofString "subclass"), .str (Str.ofString "disjoint")]) M = some (isCA w) := by
  simp [inA, inSeq, asSeq, flatA, eqF, isCA]
  constructor <;> rfl
theorem in_ra (w : Str) (M : Mem) : inA (.str w) (.tup [.str (Str.ofString "subrole"), .str (Str.ofString "subrole_inverse"), .str (Str.ofString "disjoint_roles"), .str (Str.ofString "disjoint_inverse")]) M = some (isRA w) := by
  simp [inA, inSeq, asSeq, flatA, eqF, isRA]
  first | rfl | exact ⟨rfl, rfl, rfl, rfl⟩ | (constructor <;> rfl)
theorem tr_of1 {v : A} (h : tr1 v = true) : tr v = true := by
  simp only [tr1, Bool.and_eq_true] at h
  exact h.1
theorem r_is_axiom (k : Nat) (M : Mem) (v : A) (hv : tr2 v = true) : R (k + 5) (Str.ofString "is_axiom") [v] M = .ok (.bl (isAx v)) M := by
  rw [run_def lk_f_is_axiom]
  cases v with
  | tup xs =>
    rcases xs with _ | ⟨a, _ | ⟨b, _ | ⟨c, _ | ⟨d, r⟩⟩⟩⟩
    · simp [evSs, evS, evE, evEs, evT, evTs, evO, evI, retOf, startA, cA, isiA, tyA, isiT, outB, outT, outV, outI, truA, one?, ints2?, bltA, blt1, blt2, toIntA, idxA, asSeq, asL, cmpB, ltA, ltI, f_is_axiom, isAx, len_tup, eq_int]
    · simp [evSs, evS, evE, evEs, evT, evTs, evO, evI, retOf, startA, cA, isiA, tyA, isiT, outB, outT, outV, outI, truA, one?, ints2?, bltA, blt1, blt2, toIntA, idxA, asSeq, asL, cmpB, ltA, ltI, f_is_axiom, isAx, len_tup, eq_int]
    · have hb : tr1 b = true := by
        simp [tr2] at hv
        exact hv.2.2
      cases a with
      | str w =>
        simp [evSs, evS, evE, evEs, evT, evTs, evO, evI, retOf, startA, cA, isiA, tyA, isiT, outB, outT, outV, outI, truA, one?, ints2?, bltA, blt1, blt2, toIntA, idxA, asSeq, asL, cmpB, ltA, ltI, f_is_axiom, isAx, len_tup, eq_int, at0, at1, eq_str]
        by_cases hw : tFun = w
        · simp [hw, r_is_direction (k + 1) M b hb]
        · simp [hw]
      | ref n => simp [tr2, tr1, tr] at hv
      | _ => simp [evSs, evS, evE, evEs, evT, evTs, evO, evI, retOf, startA, cA, isiA, tyA, isiT, outB, outT, outV, outI, truA, one?, ints2?, bltA, blt1, blt2, toIntA, idxA, asSeq, asL, cmpB, ltA, ltI, f_is_axiom, isAx, len_tup, eq_int, at0]
    · have hb : tr1 b = true ∧ tr1 c = true := by
        simp [tr2] at hv
        exact hv.2.2
      cases a with
      | str w =>
        simp [evSs, evS, evE, evEs, evT, evTs, evO, evI, retOf, startA, cA, isiA, tyA, isiT, outB, outT, outV, outI, truA, one?, ints2?, bltA, blt1, blt2, toIntA, idxA, asSeq, asL, cmpB, ltA, ltI, f_is_axiom, isAx, len_tup, eq_int, at0, at1, at2, eq_str, g_ca, g_ra, in_ca, in_ra]
        cases isCA w with
        | true =>
          simp [r_is_concept k M b hb.1, r_is_concept k M c hb.2]
          cases isCon b <;> simp
        | false =>
          simp [at0, at1, at2, in_ra]
          cases isRA w with
          | true =>
            simp [at0, at1, at2, r_is_word (k + 2) M b (tr_of1 hb.1), r_is_word (k + 2) M c (tr_of1 hb.2)]
            cases isW b <;> simp
          | false => simp
      | ref n => simp [tr2, tr1, tr] at hv
      | _ => simp [evSs, evS, evE, evEs, evT, evTs, evO, evI, retOf, startA, cA, isiA, tyA, isiT, outB, outT, outV, outI, truA, one?, ints2?, bltA, blt1, blt2, toIntA, idxA, asSeq, asL, cmpB, ltA, ltI, f_is_axiom, isAx, len_tup, eq_int, at0]
    · have h3 : ¬ ((r.length : Int) + 1 + 1 + 1 + 1 ≤ 3) := by omega
      have h2 : ((2 : Int) ≤ (r.length : Int) + 1 + 1 + 1 + 1) := by omega
      simp [evSs, evS, evE, evEs, evT, evTs, evO, evI, retOf, startA, cA, isiA, tyA, isiT, outB, outT, outV, outI, truA, one?, ints2?, bltA, blt1, blt2, toIntA, idxA, asSeq, asL, cmpB, ltA, ltI, f_is_axiom, isAx, len_tup, eq_int, h2, h3]
  | ref n => simp [tr2, tr] at hv
  | _ => simp [evSs, evS, evE, evEs, evT, evTs, evO, evI, retOf, startA, cA, isiA, tyA, isiT, outB, outT, outV, outI, truA, one?, ints2?, bltA, blt1, blt2, toIntA, idxA, asSeq, asL, cmpB, ltA, ltI, f_is_axiom, isAx]
end K01

namespace K01
open PySem PySem.Spec PyProof.Rows L2 MP
theorem fm_filter (l : List Nat) (p : Nat → Bool) : ((l.map fun c => A.str ⟨#[c]⟩).filterMap fun x => if p (chA x) = true then none else some x) = (l.filter fun c => !p c).map fun c => A.str ⟨#[c]⟩ := by
  induction l with
  | nil => rfl
  | cons c l ih =>
    have e : chA (.str ⟨#[c]⟩) = c := rfl
    simp only [List.map_cons, List.filterMap_cons, e]
    cases h : p c <;> simp [h, ih]
theorem all_filter (l : List Nat) (p : Nat → Bool) : l.all p = (l.filter fun c => !p c).isEmpty := by
  induction l with
  | nil => rfl
  | cons c l ih =>
    simp only [List.all_cons, List.filter_cons]
    cases p c <;> simp [ih]
theorem toDs_ch : ∀ l : List Nat, A.toDs (l.map fun c => A.str ⟨#[c]⟩) = some (l.map fun c => PyData.str ⟨#[c]⟩)
  | [] => rfl
  | c :: l => by simp only [List.map_cons, A.toDs, A.toD, toDs_ch l]
theorem canLay_ch : ∀ l : List Nat, (∀ c ∈ l, c < 128) → PyData.canLayAll0 (l.map fun c => PyData.str ⟨#[c]⟩) = true
  | [], _ => rfl
  | c :: l, h => by
    have hc := h c List.mem_cons_self
    simp only [List.map_cons, PyData.canLayAll0, PyData.canLay0, canLay_ch l fun d hd => h d (List.mem_cons_of_mem _ hd), Bool.and_true]
    simp [PyData.strOk]
    omega
theorem depth_ch : ∀ l : List Nat, PyData.depthAll (l.map fun c => PyData.str ⟨#[c]⟩) = 0
  | [] => rfl
  | c :: l => by simp only [List.map_cons, PyData.depthAll, PyData.depth, depth_ch l]; rfl
theorem eq_chs (l : List Nat) (M : Mem) (h : ∀ c ∈ l, c < 128) : eqA (.lst (l.map fun c => A.str ⟨#[c]⟩)) (.lst []) M = some l.isEmpty := by
  have e1 : A.toDM M (.lst (l.map fun c => A.str ⟨#[c]⟩)) = some (.list (l.map fun c => PyData.str ⟨#[c]⟩)) := by
    simp only [A.toDM, A.toD, toDs_ch, Option.map_some]
  have e2 : A.toDM M (.lst []) = some (.list []) := by simp only [A.toDM, A.toD, A.toDs, Option.map_some]
  have s1 : SeqAt.shaped (.list (l.map fun c => PyData.str ⟨#[c]⟩)) = true := by
    simp only [SeqAt.shaped, PyData.canLay0, PyData.depth, canLay_ch l h, depth_ch]
    rfl
  have s2 : SeqAt.shaped (.list []) = true := by decide +kernel
  unfold eqA
  rw [if_neg (by intro z; cases z), e1, e2]
  simp only [s1, s2, Bool.and_self, if_true]
  cases l <;> simp [PyData.eqv, PyData.eqvAll]
theorem r_law_is_word (k : Nat) (M : Mem) (v : A) (hv : tr v = true) : R (k + 1) (Str.ofString "_law_is_word") [v] M = .ok (.bl (isW v)) M := by
  rw [run_def lk_f_law_is_word]
  cases v with
  | str s =>
    have hs16 : s.length ≤ 16 := by
      simp only [tr, Bool.and_eq_true, decide_eq_true_eq] at hv
      exact hv.1
    have hc : ∀ c ∈ s.cps.toList, c < 128 := by
      simp only [tr, Bool.and_eq_true, List.all_eq_true, decide_eq_true_eq] at hv
      exact hv.2
    have hs : s.length ≤ sizeLine := small16 hs16
    by_cases h1 : 1 ≤ s.length
    · by_cases h2 : s.length ≤ 8
      · have h1' : (1 : Int) ≤ (s.length : Int) := by omega
        have h2' : (s.length : Int) ≤ 8 := by omega
        simp [evSs, evS, evE, evEs, evT, evTs, evO, evI, retOf, startA, cA, isiA, tyA, isiT, outB, outT, outV, outI, truA, one?, ints2?, bltA, blt1, blt2, toIntA, idxA, asSeq, asL, cmpB, ltA, ltI, f_law_is_word, lenA, hs, h1', h2', itemsOf]
        rw [lcL_eq (g := fun x => if decide (chA x ∈ letters.cps.toList) = true then none else some x)]
        · have hl : s.cps.toList.length = s.length := by simp [Str.length]
          rw [fm_filter s.cps.toList fun c => decide (c ∈ letters.cps.toList)]
          have hf : ((s.cps.toList.filter fun c => !decide (c ∈ letters.cps.toList)).map fun c => A.str ⟨#[c]⟩).length ≤ sizeLine := by
            rw [List.length_map]
            refine Nat.le_trans (List.length_filter_le _ _) ?_
            rw [hl]; exact hs
          have ew : isW (.str s) = (s.cps.toList.filter fun c => !decide (c ∈ letters.cps.toList)).isEmpty := by
            simp only [isW, h1, h2, decide_true, Bool.true_and]
            exact all_filter _ _
          have hq : ∀ c ∈ (s.cps.toList.filter fun c => !decide (c ∈ letters.cps.toList)), c < 128 := fun c h => hc c (List.mem_filter.mp h).1
          rw [ew]
          generalize (s.cps.toList.filter fun c => !decide (c ∈ letters.cps.toList)) = L at *
          have hf' : L.length ≤ sizeLine := by simpa using hf
          have z : (0 : Nat) ≤ sizeLine := Nat.zero_le _
          simp [finL, hf', eq_chs L M hq]
        · intro x hx
          simp only [List.mem_map] at hx
          obtain ⟨c, _, rfl⟩ := hx
          simp [evSs, evS, evE, evEs, evT, evTs, evO, evI, retOf, startA, cA, isiA, tyA, isiT, outB, outT, outV, outI, truA, one?, ints2?, bltA, blt1, blt2, toIntA, idxA, asSeq, asL, cmpB, ltA, ltI, bindT, wipeA, inA, inStr, chA, letters]
          split <;> simp_all
      · have h1' : (1 : Int) ≤ (s.length : Int) := by omega
        have h2' : ¬ (s.length : Int) ≤ 8 := by omega
        simp [evSs, evS, evE, evEs, evT, evTs, evO, evI, retOf, startA, cA, isiA, tyA, isiT, outB, outT, outV, outI, truA, one?, ints2?, bltA, blt1, blt2, toIntA, idxA, asSeq, asL, cmpB, ltA, ltI, f_law_is_word, lenA, hs, h1', h2', itemsOf, isW, h1, h2]
    · have h1' : ¬ (1 : Int) ≤ (s.length : Int) := by omega
      simp [evSs, evS, evE, evEs, evT, evTs, evO, evI, retOf, startA, cA, isiA, tyA, isiT, outB, outT, outV, outI, truA, one?, ints2?, bltA, blt1, blt2, toIntA, idxA, asSeq, asL, cmpB, ltA, ltI, f_law_is_word, lenA, hs, h1', itemsOf, isW, h1]
  | ref b => simp [tr] at hv
  | _ => simp [evSs, evS, evE, evEs, evT, evTs, evO, evI, retOf, startA, cA, isiA, tyA, isiT, outB, outT, outV, outI, truA, one?, ints2?, bltA, blt1, blt2, toIntA, idxA, asSeq, asL, cmpB, ltA, ltI, f_law_is_word, isW]
theorem in_con (w : Str) (M : Mem) : inA (.str w) (.tup [.str tCon, .str tOut, .str tIn]) M = some (decide (tCon = w) || (decide (tOut = w) || decide (tIn = w))) := by
  simp [inA, inSeq, asSeq, flatA, eqF]
  first | rfl | exact ⟨rfl, rfl, rfl⟩ | (constructor <;> rfl)
theorem r_law_concept_ok (k : Nat) (M : Mem) (v : A) (hv : tr1 v = true) : R (k + 2) (Str.ofString "_law_concept_ok") [v] M = .ok (.bl (isCon v)) M := by
  rw [run_def lk_f_law_concept_ok]
  cases v with
  | tup xs =>
    rcases xs with _ | ⟨a, _ | ⟨b, _ | ⟨c, r⟩⟩⟩
    · simp [evSs, evS, evE, evEs, evT, evTs, evO, evI, retOf, startA, cA, isiA, tyA, isiT, outB, outT, outV, outI, truA, one?, ints2?, bltA, blt1, blt2, toIntA, idxA, asSeq, asL, cmpB, ltA, ltI, f_law_concept_ok, isCon, len_tup, eq_int]
    · simp [evSs, evS, evE, evEs, evT, evTs, evO, evI, retOf, startA, cA, isiA, tyA, isiT, outB, outT, outV, outI, truA, one?, ints2?, bltA, blt1, blt2, toIntA, idxA, asSeq, asL, cmpB, ltA, ltI, f_law_concept_ok, isCon, len_tup, eq_int]
    · have hb : tr b = true := by
        simp [tr1] at hv
        exact hv.2.2
      have z : (3 : Nat) ≤ sizeLine := by decide
      cases a with
      | str w =>
        simp [evSs, evS, evE, evEs, evT, evTs, evO, evI, retOf, startA, cA, isiA, tyA, isiT, outB, outT, outV, outI, truA, one?, ints2?, bltA, blt1, blt2, toIntA, idxA, asSeq, asL, cmpB, ltA, ltI, f_law_concept_ok, isCon, len_tup, eq_int, at0, at1, in_con, z]
        generalize (decide (tCon = w) || (decide (tOut = w) || decide (tIn = w))) = q
        cases q <;> simp [r_law_is_word k M b hb]
      | ref n => simp [tr1, tr] at hv
      | _ => simp [evSs, evS, evE, evEs, evT, evTs, evO, evI, retOf, startA, cA, isiA, tyA, isiT, outB, outT, outV, outI, truA, one?, ints2?, bltA, blt1, blt2, toIntA, idxA, asSeq, asL, cmpB, ltA, ltI, f_law_concept_ok, isCon, len_tup, eq_int, at0]
    · have h2 : ¬ ((r.length : Int) + 1 + 1 + 1 = 2) := by omega
      simp [evSs, evS, evE, evEs, evT, evTs, evO, evI, retOf, startA, cA, isiA, tyA, isiT, outB, outT, outV, outI, truA, one?, ints2?, bltA, blt1, blt2, toIntA, idxA, asSeq, asL, cmpB, ltA, ltI, f_law_concept_ok, isCon, len_tup, eq_int, h2]
  | ref n => simp [tr1, tr] at hv
  | _ => simp [evSs, evS, evE, evEs, evT, evTs, evO, evI, retOf, startA, cA, isiA, tyA, isiT, outB, outT, outV, outI, truA, one?, ints2?, bltA, blt1, blt2, toIntA, idxA, asSeq, asL, cmpB, ltA, ltI, f_law_concept_ok, isCon]
theorem ca_fun : isCA tFun = false := by decide +kernel
theorem ra_fun : isRA tFun = false := by decide +kernel
theorem con_shape {b : A} (h : isCon b = true) : ∃ u x, b = .tup [.str u, x] ∧ isDir b = !decide (tCon = u) := by
  unfold isCon at h
  split at h
  · rename_i u x
    refine ⟨u, x, rfl, ?_⟩
    simp only [Bool.and_eq_true] at h
    simp only [isDir, h.2, Bool.and_true]
    by_cases hu : tCon = u
    · subst hu
      decide +kernel
    · have h1 := h.1
      simp only [hu, decide_false, Bool.false_or] at h1 ⊢
      rw [h1]; rfl
  · exact Bool.noConfusion h
theorem dir_of_con {b : A} (h : isCon b = false) : isDir b = false := by
  cases hd : isDir b with
  | false => rfl
  | true => rw [dir_con b hd] at h; exact Bool.noConfusion h
theorem r_law_axiom_ok (k : Nat) (M : Mem) (v : A) (hv : tr2 v = true) : R (k + 3) (Str.ofString "_law_axiom_ok") [v] M = .ok (.bl (isAx v)) M := by
  rw [run_def lk_f_law_axiom_ok]
  have z2 : (2 : Nat) ≤ sizeLine := by decide
  have z4 : (4 : Nat) ≤ sizeLine := by decide
  cases v with
  | tup xs =>
    rcases xs with _ | ⟨a, _ | ⟨b, _ | ⟨c, _ | ⟨d, r⟩⟩⟩⟩
    · simp [evSs, evS, evE, evEs, evT, evTs, evO, evI, retOf, startA, cA, isiA, tyA, isiT, outB, outT, outV, outI, truA, one?, ints2?, bltA, blt1, blt2, toIntA, idxA, asSeq, asL, cmpB, ltA, ltI, f_law_axiom_ok, isAx, len_tup, eq_int]
    · simp [evSs, evS, evE, evEs, evT, evTs, evO, evI, retOf, startA, cA, isiA, tyA, isiT, outB, outT, outV, outI, truA, one?, ints2?, bltA, blt1, blt2, toIntA, idxA, asSeq, asL, cmpB, ltA, ltI, f_law_axiom_ok, isAx, len_tup, eq_int]
    · have hb : tr1 b = true := by
        simp [tr2] at hv
        exact hv.2.2
      cases a with
      | str w =>
        by_cases hw : tFun = w
        · cases hc : isCon b with
          | false => simp [evSs, evS, evE, evEs, evT, evTs, evO, evI, retOf, startA, cA, isiA, tyA, isiT, outB, outT, outV, outI, truA, one?, ints2?, bltA, blt1, blt2, toIntA, idxA, asSeq, asL, cmpB, ltA, ltI, f_law_axiom_ok, isAx, len_tup, eq_int, at0, at1, eq_str, hw, r_law_concept_ok k M b hb, hc, dir_of_con hc]
          | true =>
            obtain ⟨u, x, e1, e2⟩ := con_shape hc
            have q : R (k + 2) (Str.ofString "_law_concept_ok") [.tup [.str u, x]] M = .ok (.bl true) M := by rw [← e1, r_law_concept_ok k M b hb, hc]
            simp [evSs, evS, evE, evEs, evT, evTs, evO, evI, retOf, startA, cA, isiA, tyA, isiT, outB, outT, outV, outI, truA, one?, ints2?, bltA, blt1, blt2, toIntA, idxA, asSeq, asL, cmpB, ltA, ltI, f_law_axiom_ok, isAx, len_tup, eq_int, at0, at1, eq_str, hw, e2]
            rw [e1]
            simp [q, at0, at1, eq_str]
        · simp [evSs, evS, evE, evEs, evT, evTs, evO, evI, retOf, startA, cA, isiA, tyA, isiT, outB, outT, outV, outI, truA, one?, ints2?, bltA, blt1, blt2, toIntA, idxA, asSeq, asL, cmpB, ltA, ltI, f_law_axiom_ok, isAx, len_tup, eq_int, at0, at1, eq_str, hw]
      | ref n => simp [tr2, tr1, tr] at hv
      | _ => simp [evSs, evS, evE, evEs, evT, evTs, evO, evI, retOf, startA, cA, isiA, tyA, isiT, outB, outT, outV, outI, truA, one?, ints2?, bltA, blt1, blt2, toIntA, idxA, asSeq, asL, cmpB, ltA, ltI, f_law_axiom_ok, isAx, len_tup, eq_int, at0]
    · have hb : tr1 b = true ∧ tr1 c = true := by
        simp [tr2] at hv
        exact hv.2.2
      cases a with
      | str w =>
        by_cases hw : tFun = w
        · subst hw
          simp [evSs, evS, evE, evEs, evT, evTs, evO, evI, retOf, startA, cA, isiA, tyA, isiT, outB, outT, outV, outI, truA, one?, ints2?, bltA, blt1, blt2, toIntA, idxA, asSeq, asL, cmpB, ltA, ltI, f_law_axiom_ok, isAx, len_tup, eq_int, at0, at1, at2, eq_str, ca_fun, ra_fun]
        · simp [evSs, evS, evE, evEs, evT, evTs, evO, evI, retOf, startA, cA, isiA, tyA, isiT, outB, outT, outV, outI, truA, one?, ints2?, bltA, blt1, blt2, toIntA, idxA, asSeq, asL, cmpB, ltA, ltI, f_law_axiom_ok, isAx, len_tup, eq_int, at0, at1, at2, eq_str, in_ca, in_ra, hw, z2, z4]
          cases isCA w with
          | true =>
            simp [at0, at1, at2, r_law_concept_ok k M b hb.1, r_law_concept_ok k M c hb.2]
            cases isCon b <;> simp [at0, at1, at2, r_law_concept_ok k M b hb.1, r_law_concept_ok k M c hb.2]
          | false =>
            simp [at0, at1, at2, in_ra]
            cases isRA w with
            | true =>
              simp [at0, at1, at2, r_law_is_word (k + 1) M b (tr_of1 hb.1), r_law_is_word (k + 1) M c (tr_of1 hb.2)]
              cases isW b <;> simp [at0, at1, at2, r_law_is_word (k + 1) M b (tr_of1 hb.1), r_law_is_word (k + 1) M c (tr_of1 hb.2)]
            | false => simp
      | ref n => simp [tr2, tr1, tr] at hv
      | _ => simp [evSs, evS, evE, evEs, evT, evTs, evO, evI, retOf, startA, cA, isiA, tyA, isiT, outB, outT, outV, outI, truA, one?, ints2?, bltA, blt1, blt2, toIntA, idxA, asSeq, asL, cmpB, ltA, ltI, f_law_axiom_ok, isAx, len_tup, eq_int, at0]
    · have h3 : ¬ ((r.length : Int) + 1 + 1 + 1 + 1 < 2) := by omega
      have h2 : ¬ ((r.length : Int) + 1 + 1 + 1 + 1 = 2) := by omega
      have h4 : ¬ ((r.length : Int) + 1 + 1 + 1 + 1 = 3) := by omega
      cases a with
      | str w =>
        by_cases hw : tFun = w
        · simp [evSs, evS, evE, evEs, evT, evTs, evO, evI, retOf, startA, cA, isiA, tyA, isiT, outB, outT, outV, outI, truA, one?, ints2?, bltA, blt1, blt2, toIntA, idxA, asSeq, asL, cmpB, ltA, ltI, f_law_axiom_ok, isAx, len_tup, eq_int, eq_str, at0, hw, h2, h3, h4]
        · simp [evSs, evS, evE, evEs, evT, evTs, evO, evI, retOf, startA, cA, isiA, tyA, isiT, outB, outT, outV, outI, truA, one?, ints2?, bltA, blt1, blt2, toIntA, idxA, asSeq, asL, cmpB, ltA, ltI, f_law_axiom_ok, isAx, len_tup, eq_int, eq_str, at0, hw, h2, h3, h4]
      | ref n => simp [tr2, tr1, tr] at hv
      | _ => simp [evSs, evS, evE, evEs, evT, evTs, evO, evI, retOf, startA, cA, isiA, tyA, isiT, outB, outT, outV, outI, truA, one?, ints2?, bltA, blt1, blt2, toIntA, idxA, asSeq, asL, cmpB, ltA, ltI, f_law_axiom_ok, isAx, len_tup, eq_int, at0, h3]
  | ref n => simp [tr2, tr] at hv
  | _ => simp [evSs, evS, evE, evEs, evT, evTs, evO, evI, retOf, startA, cA, isiA, tyA, isiT, outB, outT, outV, outI, truA, one?, ints2?, bltA, blt1, blt2, toIntA, idxA, asSeq, asL, cmpB, ltA, ltI, f_law_axiom_ok, isAx]
end K01

namespace K01
open PySem PySem.Spec PyProof.Rows L2 MP
mutual
/-- a dict within -/
def hasD : A → Bool
  | .tup xs => hasDs xs
  | .lst xs => hasDs xs
  | .dct _ => true
  | _ => false
def hasDs : List A → Bool
  | [] => false
  | x :: xs => hasD x || hasDs xs
end
/-- small data -/
def gd : Nat → A → Bool
  | _, .non => true
  | _, .bl _ => true
  | _, .int i => decide (0 ≤ i) && decide (i < 10)
  | _, .str s => tr (.str s)
  | n + 1, .tup xs => decide (xs.length ≤ 8) && xs.all (gd n)
  | n + 1, .lst xs => decide (xs.length ≤ 8) && xs.all (gd n)
  | _, .dct kvs => kvs.isEmpty
  | _, _ => false
def bd : Nat → Nat
  | 0 => 200
  | n + 1 => 8 * (bd n + 2) + 10
theorem bd_pos : ∀ n, 200 ≤ bd n
  | 0 => Nat.le_refl _
  | n + 1 => by have := bd_pos n; show 200 ≤ 8 * (bd n + 2) + 10; omega
theorem textFrom_le {B : Nat} : ∀ (ts : List Str) (k : Nat) (acc : Str), (∀ t ∈ ts, t.length ≤ B) → (textFrom k acc ts).length ≤ acc.length + ts.length * (B + 2)
  | [], k, acc, _ => by show acc.length ≤ _; simp
  | t :: ts, k, acc, h => by
    have ih := textFrom_le ts (k + 1) (acc ++ (if k > 0 then ", " else "" : String) ++ t) fun u hu => h u (List.mem_cons_of_mem _ hu)
    have h1 := h t List.mem_cons_self
    have e : (acc ++ (if k > 0 then ", " else "" : String) ++ t).length ≤ acc.length + 2 + t.length := by
      rw [strLen_append, strLen_append]
      split
      · show acc.length + 2 + t.length ≤ _; omega
      · show acc.length + 0 + t.length ≤ _; omega
    show (textFrom (k + 1) (acc ++ (if k > 0 then ", " else "" : String) ++ t) ts).length ≤ _
    rw [List.length_cons, Nat.add_mul]
    omega
theorem listText_le {B : Nat} (ts : List Str) (h : ∀ t ∈ ts, t.length ≤ B) : (listText ts).length ≤ ts.length * (B + 2) + 10 := by
  have := textFrom_le ts 0 ("[" : Str) h
  unfold listText
  rw [strLen_append]
  have e1 : ("[" : Str).length = 1 := rfl
  have e2 : ("]" : Str).length = 1 := rfl
  omega
theorem piled_le {B : Nat} : ∀ (ts : List Str), (∀ t ∈ ts, t.length ≤ B) → piled ts ≤ ts.length * (B + 2)
  | [], _ => by simp [piled]
  | t :: ts, h => by
    have ih := piled_le ts fun u hu => h u (List.mem_cons_of_mem _ hu)
    have h1 := h t List.mem_cons_self
    rw [piled_cons, List.length_cons, Nat.add_mul]
    omega
theorem join_le {B : Nat} (ts : List Str) (h : ∀ t ∈ ts, t.length ≤ B) : (Str.join ", " ts).length ≤ ts.length * (B + 2) := by
  by_cases e : ts = []
  · subst e; exact Nat.zero_le _
  · have := join_length_add ts e
    have := piled_le ts h
    omega
theorem tupleText_le {B : Nat} (ts : List Str) (h : ∀ t ∈ ts, t.length ≤ B) : (tupleText ts).length ≤ ts.length * (B + 2) + 10 := by
  have := join_le ts h
  unfold tupleText
  rw [strLen_append, strLen_append]
  have e1 : ("(" : Str).length = 1 := rfl
  split
  · have e2 : (((",)" : String)) : Str).length = 2 := rfl
    omega
  · have e2 : (((")" : String)) : Str).length = 1 := rfl
    omega
theorem int_shown : ∀ m : Nat, m < 10 → (PyData.int (m : Int)).shown.length ≤ 200 := by decide +kernel
structure Gd (n : Nat) (v : A) (d : PyData) : Prop where
  r : v.toR = some d
  s : d.showable = true
  dp : d.depth ≤ n + 1
  l : d.shown.length ≤ bd n
  h : d.hasDict = true → hasD v = true
theorem gd_all {n : Nat} (ih : ∀ v, gd n v = true → ∃ d, Gd n v d) : ∀ xs : List A, xs.all (gd n) = true → ∃ ds, A.toRs xs = some ds ∧ PyData.showableAll ds = true ∧ PyData.depthAll ds ≤ n + 1 ∧ (PyData.shownAll ds).length = xs.length ∧ (∀ t ∈ PyData.shownAll ds, t.length ≤ bd n) ∧ (PyData.hasDictAll ds = true → hasDs xs = true)
  | [], _ => by
    refine ⟨[], rfl, rfl, Nat.zero_le _, rfl, ?_, ?_⟩
    · intro t ht
      simp only [PyData.shownAll] at ht
      cases ht
    · intro h
      simp only [PyData.hasDictAll] at h
      cases h
  | x :: xs, h => by
    rw [List.all_cons, Bool.and_eq_true] at h
    obtain ⟨d, g⟩ := ih x h.1
    obtain ⟨ds, h1, h2, h3, h4, h5, h6⟩ := gd_all ih xs h.2
    refine ⟨d :: ds, ?_, ?_, ?_, ?_, ?_, ?_⟩
    · simp only [A.toRs, g.r, h1]
    · simp only [PyData.showableAll, g.s, h2, Bool.and_self]
    · simp only [PyData.depthAll]
      have := g.dp
      omega
    · simp only [PyData.shownAll, List.length_cons, h4]
    · intro t ht
      simp only [PyData.shownAll, List.mem_cons] at ht
      rcases ht with rfl | ht
      · exact g.l
      · exact h5 t ht
    · intro hd
      simp only [PyData.hasDictAll, Bool.or_eq_true] at hd
      simp only [hasDs, Bool.or_eq_true]
      exact hd.imp g.h h6
theorem gd_data : ∀ (n : Nat) (v : A), gd n v = true → ∃ d, Gd n v d := by
  intro n
  have base : ∀ n v, gd n v = true → (∀ xs, v ≠ .tup xs) → (∀ xs, v ≠ .lst xs) → ∃ d, Gd n v d := by
    intro n v h n1 n2
    have b := bd_pos n
    cases v with
    | non => exact ⟨.none, rfl, rfl, Nat.zero_le _, Nat.le_trans (show (PyData.none).shown.length ≤ 200 by decide +kernel) b, fun h => by cases h⟩
    | bl k =>
      refine ⟨.bool k, rfl, rfl, Nat.zero_le _, Nat.le_trans (show (PyData.bool k).shown.length ≤ 200 from ?_) b, fun h => by cases h⟩
      cases k <;> decide +kernel
    | int i =>
      have h' : 0 ≤ i ∧ i < 10 := by
        cases n <;> simpa [gd] using h
      obtain ⟨m, rfl⟩ : ∃ m : Nat, i = (m : Int) := ⟨i.toNat, by omega⟩
      have hm : m < 10 := by omega
      refine ⟨.int m, rfl, ?_, Nat.zero_le _, Nat.le_trans (int_shown m hm) b, fun h => by cases h⟩
      have : ∀ m : Nat, m < 10 → (PyData.int (m : Int)).showable = true := by decide +kernel
      exact this m hm
    | str s =>
      have h' : tr (.str s) = true := by
        cases n <;> simpa [gd] using h
      simp only [tr, Bool.and_eq_true, List.all_eq_true, decide_eq_true_eq] at h'
      refine ⟨.str s, rfl, rfl, Nat.zero_le _, Nat.le_trans (show (PyData.str s).shown.length ≤ 200 from ?_) b, fun h => by cases h⟩
      have := StrLaws.reprText_len s fun c hc => Nat.lt_of_lt_of_le (h'.2 c hc) (by decide)
      have e : (PyData.str s).shown = reprText s := by simp only [PyData.shown]
      rw [e]
      omega
    | tup xs => exact absurd rfl (n1 xs)
    | lst xs => exact absurd rfl (n2 xs)
    | dct kvs =>
      have h' : kvs = [] := by
        cases n <;> (cases kvs <;> first | rfl | exact Bool.noConfusion h)
      subst h'
      refine ⟨.dict [], rfl, rfl, Nat.succ_le_succ (Nat.zero_le _), Nat.le_trans (show (PyData.dict []).shown.length ≤ 200 by decide +kernel) b, fun h => rfl⟩
    | ref m => cases n <;> exact Bool.noConfusion h
  induction n with
  | zero =>
    intro v h
    refine base 0 v h (fun xs e => ?_) fun xs e => ?_
    · subst e; exact Bool.noConfusion h
    · subst e; exact Bool.noConfusion h
  | succ n ih =>
    intro v h
    cases v with
    | tup xs =>
      simp only [gd, Bool.and_eq_true, decide_eq_true_eq] at h
      obtain ⟨ds, h1, h2, h3, h4, h5, h6⟩ := gd_all ih xs h.2
      refine ⟨.tuple ds, ?_, ?_, ?_, ?_, ?_⟩
      · simp only [A.toR, h1, Option.map_some]
      · simpa only [PyData.showable] using h2
      · simp only [PyData.depth]; omega
      · simp only [PyData.shown]
        have := tupleText_le _ h5
        rw [h4] at this
        show _ ≤ 8 * (bd n + 2) + 10
        have := Nat.mul_le_mul_right (bd n + 2) h.1
        omega
      · intro z
        simp only [PyData.hasDict] at z
        simp only [hasD]
        exact h6 z
    | lst xs =>
      simp only [gd, Bool.and_eq_true, decide_eq_true_eq] at h
      obtain ⟨ds, h1, h2, h3, h4, h5, h6⟩ := gd_all ih xs h.2
      refine ⟨.list ds, ?_, ?_, ?_, ?_, ?_⟩
      · simp only [A.toR, h1, Option.map_some]
      · simpa only [PyData.showable] using h2
      · simp only [PyData.depth]; omega
      · simp only [PyData.shown]
        have := listText_le _ h5
        rw [h4] at this
        show _ ≤ 8 * (bd n + 2) + 10
        have := Nat.mul_le_mul_right (bd n + 2) h.1
        omega
      · intro z
        simp only [PyData.hasDict] at z
        simp only [hasD]
        exact h6 z
    | non => exact base _ _ h (fun _ e => by cases e) fun _ e => by cases e
    | bl _ => exact base _ _ h (fun _ e => by cases e) fun _ e => by cases e
    | int _ => exact base _ _ h (fun _ e => by cases e) fun _ e => by cases e
    | str _ => exact base _ _ h (fun _ e => by cases e) fun _ e => by cases e
    | dct _ => exact base _ _ h (fun _ e => by cases e) fun _ e => by cases e
    | ref _ => exact base _ _ h (fun _ e => by cases e) fun _ e => by cases e
theorem gd_tr : ∀ {n : Nat} {v : A}, gd n v = true → tr v = true := by
  intro n v h
  cases v with
  | str s => cases n <;> simpa only [gd] using h
  | ref m => cases n <;> exact Bool.noConfusion h
  | _ => rfl
theorem gd_tr1 {n : Nat} {v : A} (h : gd n v = true) : tr1 v = true := by
  unfold tr1
  rw [gd_tr h, Bool.true_and]
  cases v with
  | tup xs =>
    cases n with
    | zero => exact Bool.noConfusion h
    | succ n =>
      simp only [gd, Bool.and_eq_true, List.all_eq_true] at h
      simp only [List.all_eq_true]
      exact fun x hx => gd_tr (h.2 x hx)
  | _ => rfl
theorem gd_tr2 {n : Nat} {v : A} (h : gd n v = true) : tr2 v = true := by
  unfold tr2
  rw [gd_tr h, Bool.true_and]
  cases v with
  | tup xs =>
    cases n with
    | zero => exact Bool.noConfusion h
    | succ n =>
      simp only [gd, Bool.and_eq_true, List.all_eq_true] at h
      simp only [List.all_eq_true]
      exact fun x hx => gd_tr1 (h.2 x hx)
  | _ => rfl
def ok1 (v : A) : Bool := !hasD v || !v.hasL
def okv (v : A) : Bool := gd 5 v && ok1 v
theorem repr_ok {v : A} (h : okv v = true) : ∃ s, ∀ M, reprA v M = .ok (.str s) M := by
  simp only [okv, Bool.and_eq_true] at h
  obtain ⟨d, g⟩ := gd_data 5 v h.1
  refine ⟨d.shown, fun M => ?_⟩
  have e : v.toRM M = some d := by
    rw [← g.r]
    cases v with
    | ref m => exact Bool.noConfusion h.1
    | _ => rfl
  have l : d.shown.length ≤ sizeLine := Nat.le_trans g.l (by decide)
  have dp : d.depth ≤ 60 := Nat.le_trans g.dp (by decide)
  have o : (!d.hasDict || !v.hasL) = true := by
    cases hd : d.hasDict with
    | false => rfl
    | true =>
      have := h.2
      simp only [ok1, g.h hd] at this
      simpa using this
  unfold reprA
  rw [e]
  simp only [g.s, o, l, dp, decide_true, Bool.and_self, if_true]
def sb (b : Bool) : Str := (PyData.bool b).shown
theorem repr_bl (b : Bool) (M : Mem) : reprA (.bl b) M = .ok (.str (sb b)) M := by
  have h : ((PyData.bool b).showable && (!(PyData.bool b).hasDict || !(A.bl b).hasL) && decide ((PyData.bool b).shown.length ≤ sizeLine) && decide ((PyData.bool b).depth ≤ 60)) = true := by
    cases b <;> decide +kernel
  unfold reprA
  rw [show (A.bl b).toRM M = some (PyData.bool b) from rfl]
  simp only [h, if_true]
  rfl
theorem eq_two (a b : Bool) (M : Mem) : eqA (.lst [.str (sb a), .str (sb b)]) (.lst [.str (sb a), .str (sb b)]) M = some true := by
  have e : A.toDM M (.lst [.str (sb a), .str (sb b)]) = some (.list [.str (sb a), .str (sb b)]) := rfl
  have q : (SeqAt.shaped (.list [.str (sb a), .str (sb b)]) && SeqAt.shaped (.list [.str (sb a), .str (sb b)])) = true := by
    cases a <;> cases b <;> decide +kernel
  unfold eqA
  rw [if_neg (by intro z; cases z), e]
  simp only [q, if_true]
  simp [PyData.eqv, PyData.eqvAll]
theorem r_law_check (k : Nat) (M : Mem) (v : A) (h : okv v = true) : R (k + 6) (Str.ofString "_law_check") [v] M = .ok (.bl true) M := by
  rw [run_def lk_f_law_check]
  have hg : gd 5 v = true := by
    simp only [okv, Bool.and_eq_true] at h
    exact h.1
  obtain ⟨s, hs⟩ := repr_ok h
  have z : (2 : Nat) ≤ sizeLine := by decide
  simp [evSs, evS, evE, evEs, evT, evTs, evO, evI, retOf, startA, cA, isiA, tyA, isiT, outB, outT, outV, outI, truA, one?, ints2?, bltA, blt1, blt2, toIntA, idxA, asSeq, asL, cmpB, ltA, ltI, binA, addA, binN, MP.binI, setA, f_law_check, hs, r_is_concept (k + 1) M v (gd_tr1 hg), r_is_axiom k M v (gd_tr2 hg), r_law_concept_ok (k + 3) M v (gd_tr1 hg), r_law_axiom_ok (k + 2) M v (gd_tr2 hg), repr_bl, finL, z, eq_two, eq_str]
end K01

namespace K01
open PySem PySem.Spec PyProof.Rows L2 MP
/-- the cell n is a stream -/
def SI (M : Mem) (n : Nat) : Prop := ∃ a b : Int, M[n]? = some (.lst [.int a, .int b]) ∧ 0 ≤ a ∧ 0 ≤ b ∧ b < 2147483647
theorem si_set {M : Mem} {n : Nat} {a b a' b' : Int} (h : M[n]? = some (.lst [.int a, .int b])) (h1 : 0 ≤ a') (h2 : 0 ≤ b') (h3 : b' < 2147483647) : SI (M.set n (.lst [.int a', .int b'])) n :=
  ⟨a', b', by rw [List.getElem?_set_self (List.getElem?_eq_some_iff.mp h).1], h1, h2, h3⟩
theorem ok_lit1 (i : Int) : okMul i 69621 = true := by simp [okMul]
theorem ok_sq (b : Int) (h1 : 0 ≤ b) (h2 : b < 2147483647) : okMul b b = true := by
  have : -18446744073709551616 < b := by omega
  have : b < 18446744073709551616 := by omega
  simp [okMul, *]
theorem ix20 : L2.ixN 2 0 = some 0 := by decide +kernel
theorem ix21 : L2.ixN 2 1 = some 1 := by decide +kernel
theorem r_draw (k : Nat) (M : Mem) (n : Nat) (c : Int) (hM : SI M n) (h0 : 0 < c) (h1 : c ≤ 1000) : ∃ r M', R (k + 1) (Str.ofString "_law_draw") [.ref n, .int c] M = .ok (.int r) M' ∧ 0 ≤ r ∧ r < c ∧ SI M' n := by
  obtain ⟨a, b, hM, ha, hb, hb2⟩ := hM
  rw [run_def lk_f_law_draw]
  have hc : c < 1073741824 := by omega
  have hn : n < M.length := (List.getElem?_eq_some_iff.mp hM).1
  by_cases hp : 0 < a
  · refine ⟨a % c, M.set n (.lst [.int (a / c), .int b]), ?_, Int.emod_nonneg _ (by omega), Int.emod_lt_of_pos _ h0, si_set hM (Int.ediv_nonneg ha (by omega)) hb hb2⟩
    simp [evSs, evS, evE, evEs, evT, evTs, evO, evI, retOf, startA, cA, isiA, tyA, isiT, outB, outT, outV, outI, truA, one?, ints2?, bltA, blt1, blt2, toIntA, idxA, asSeq, asL, cmpB, ltA, ltI, binA, addA, binN, MP.binI, setA, f_law_draw, hM, at0, at1, hp, h0, hc, ix20]
  · have hm : (0 : Int) < 2147483647 := by decide
    generalize hb' : (b * 69621 + 7) % 2147483647 = b'
    have q1 : 0 ≤ b' := by rw [← hb']; exact Int.emod_nonneg _ (by decide)
    have q2 : b' < 2147483647 := by rw [← hb']; exact Int.emod_lt_of_pos _ hm
    refine ⟨b' * b' % 2147483629 / 32 % c, M.set n (.lst [.int a, .int b']), ?_, Int.emod_nonneg _ (by omega), Int.emod_lt_of_pos _ h0, si_set hM ha q1 q2⟩
    have hs : ∀ X, (M.set n X)[n]? = some X := fun X => List.getElem?_set_self hn
    simp [evSs, evS, evE, evEs, evT, evTs, evO, evI, retOf, startA, cA, isiA, tyA, isiT, outB, outT, outV, outI, truA, one?, ints2?, bltA, blt1, blt2, toIntA, idxA, asSeq, asL, cmpB, ltA, ltI, binA, addA, binN, MP.binI, setA, f_law_draw, hM, at0, at1, hp, h0, hc, ix21, ok_lit1, hb', hs, ok_sq b' q1 q2]
theorem atI_mem {xs : List A} {r : Int} (h1 : 0 ≤ r) (h2 : r < (xs.length : Int)) : ∃ x ∈ xs, L2.atI xs r = some x := by
  obtain ⟨m, rfl⟩ : ∃ m : Nat, r = (m : Int) := ⟨r.toNat, by omega⟩
  have hm : m < xs.length := by omega
  refine ⟨xs[m], List.getElem_mem hm, ?_⟩
  simp [L2.atI, L2.ixN, h2, hm]
theorem r_choose (k : Nat) (M : Mem) (n : Nat) (xs : List A) (hM : SI M n) (h0 : 0 < xs.length) (h1 : xs.length ≤ 1000) : ∃ x ∈ xs, ∃ M', R (k + 2) (Str.ofString "_law_choose") [.ref n, .lst xs] M = .ok x M' ∧ SI M' n := by
  obtain ⟨r, M', e, q1, q2, q3⟩ := r_draw k M n (xs.length : Int) hM (by omega) (by omega)
  obtain ⟨x, hx, ex⟩ := atI_mem q1 q2
  refine ⟨x, hx, M', ?_, q3⟩
  rw [run_def lk_f_law_choose]
  simp [evSs, evS, evE, evEs, evT, evTs, evO, evI, retOf, startA, cA, isiA, tyA, isiT, outB, outT, outV, outI, truA, one?, ints2?, bltA, blt1, blt2, toIntA, idxA, asSeq, asL, cmpB, ltA, ltI, binA, addA, binN, MP.binI, setA, f_law_choose, lenA, e, ex]
end K01

namespace K01
open PySem PySem.Spec PyProof.Rows L2 MP
def sz (c : Int) : Int := if -1 - c > c then -1 - c else c
theorem sz_pos (c : Int) : 0 ≤ sz c := by unfold sz; split <;> omega
theorem ok_l (l : Int) (i : Int) (h : -18446744073709551616 < l ∧ l < 18446744073709551616) : okMul l i = true := by simp [okMul, h.1, h.2]
theorem ok_r (l : Int) (i : Int) (h : -18446744073709551616 < l ∧ l < 18446744073709551616) : okMul i l = true := by simp [okMul, h.1, h.2]
def mix (c k : Int) : Int := (sz c % 2147483629 + 7919 * k * k + 31 * k + 17) * 48271 % 2147483647
theorem r_stream (k : Nat) (M : Mem) (ns : List Int) (i : Int) (h0 : 0 ≤ i) (h1 : i < 100) : ∃ M', R (k + 1) (Str.ofString "_law_stream") [scriptA ns, .int i] M = .ok (.ref M.length) M' ∧ SI M' M.length := by
  rw [run_def lk_f_law_stream]
  have hi : -18446744073709551616 < i ∧ i < 18446744073709551616 := by omega
  have o1 : okMul 7919 i = true := ok_r i 7919 hi
  have o2 : okMul (7919 * i) i = true := ok_r i _ hi
  have o3 : okMul 31 i = true := ok_r i _ hi
  have o4 : ∀ j, okMul j 48271 = true := fun j => ok_r 48271 j (by decide)
  have o5 : ∀ j, okMul j 1 = true := fun j => ok_r 1 j (by decide)
  have o6 : ∀ j, okMul j 0 = true := fun j => ok_r 0 j (by decide)
  have z : (2 : Nat) ≤ sizeLine := by decide
  have fin : ∀ c : Int, SI (M ++ [.lst [.int (sz c * (if 1000000000000000000 ≤ sz c then 1 else 0)), .int (mix c i)]]) M.length := by
    intro c
    refine ⟨sz c * (if 1000000000000000000 ≤ sz c then 1 else 0), mix c i, by simp, ?_, Int.emod_nonneg _ (by decide), Int.emod_lt_of_pos _ (by decide)⟩
    have := sz_pos c
    split <;> omega
  by_cases hl : i < (ns.length : Int)
  · obtain ⟨x, hx, ex⟩ := atI_mem (xs := ns.map A.int) h0 (by simpa using hl)
    obtain ⟨c, _, rfl⟩ := List.mem_map.mp hx
    refine ⟨_, ?_, fin c⟩
    by_cases hs : 1000000000000000000 ≤ sz c
    · unfold mix
      have hs' := hs
      unfold sz at hs' ⊢
      simp [evSs, evS, evE, evEs, evT, evTs, evO, evI, retOf, startA, cA, isiA, tyA, isiT, outB, outT, outV, outI, truA, one?, ints2?, bltA, blt1, blt2, toIntA, idxA, asSeq, asL, cmpB, ltA, ltI, binA, addA, binN, MP.binI, setA, f_law_stream, scriptA, lenA, hl, ex, o1, o2, o3, o4, o5, o6, finL, z, hs']
    · unfold mix
      have hs' := hs
      unfold sz at hs' ⊢
      simp [evSs, evS, evE, evEs, evT, evTs, evO, evI, retOf, startA, cA, isiA, tyA, isiT, outB, outT, outV, outI, truA, one?, ints2?, bltA, blt1, blt2, toIntA, idxA, asSeq, asL, cmpB, ltA, ltI, binA, addA, binN, MP.binI, setA, f_law_stream, scriptA, lenA, hl, ex, o1, o2, o3, o4, o5, o6, finL, z, hs']
  · refine ⟨_, ?_, fin 0⟩
    by_cases hs : 1000000000000000000 ≤ sz 0
    · exact absurd hs (by decide)
    · unfold mix
      have hs' := hs
      unfold sz at hs' ⊢
      simp [evSs, evS, evE, evEs, evT, evTs, evO, evI, retOf, startA, cA, isiA, tyA, isiT, outB, outT, outV, outI, truA, one?, ints2?, bltA, blt1, blt2, toIntA, idxA, asSeq, asL, cmpB, ltA, ltI, binA, addA, binN, MP.binI, setA, f_law_stream, scriptA, lenA, hl, o1, o2, o3, o4, o5, o6, finL, z, hs']
def nm : A → Bool
  | .str s => tr (.str s)
  | _ => false
/-- names: two lists -/
def NM (v : A) : Prop := ∃ C Rn, v = .tup [.lst C, .lst Rn] ∧ C.all nm = true ∧ Rn.all nm = true ∧ (C.length = 3 ∨ C.length = 4) ∧ (Rn.length = 3 ∨ Rn.length = 4)
def stA : A → Str
  | .str z => z
  | _ => ⟨#[]⟩
def nmL (h : Str) (t : Str) : List A := (t.cps.toList.map fun c => A.str ⟨#[c]⟩).filterMap fun x => some (.str (h ++ stA x))
theorem nm_ok (h : Str) (hh : h = Str.ofString "" ∨ h = Str.ofString "k" ∨ h = Str.ofString "zzzzzzz") : (nmL h (Str.ofString "abcd")).all nm = true ∧ (nmL h (Str.ofString "abcd")).length = 4 ∧ (nmL h (Str.ofString "rst")).all nm = true ∧ (nmL h (Str.ofString "rst")).length = 3 := by
  rcases hh with rfl | rfl | rfl <;> decide +kernel
theorem cut_sub {xs : List A} {lo hi : Option Int} {x : A} (h : x ∈ cutA xs lo hi) : x ∈ xs := List.mem_of_mem_drop (List.mem_of_mem_take h)
theorem cut_len (xs : List A) (lo hi : Option Int) : (cutA xs lo hi).length ≤ xs.length := by
  unfold cutA
  rw [List.length_take, List.length_drop]
  omega
theorem r_names (k : Nat) (M : Mem) (n : Nat) (hM : SI M n) : ∃ v M', R (k + 2) (Str.ofString "_law_names") [.ref n] M = .ok v M' ∧ NM v ∧ SI M' n := by
  obtain ⟨r, M1, e1, p1, p2, s1⟩ := r_draw k M n 3 hM (by decide) (by decide)
  obtain ⟨r', M2, e2, q1, q2, s2⟩ := r_draw k M1 n 4 s1 (by decide) (by decide)
  obtain ⟨h, hh, eh⟩ : ∃ h, (h = Str.ofString "" ∨ h = Str.ofString "k" ∨ h = Str.ofString "zzzzzzz") ∧ L2.atI [A.str (Str.ofString ""), .str (Str.ofString "k"), .str (Str.ofString "zzzzzzz")] r = some (.str h) := by
    obtain rfl | rfl | rfl : r = 0 ∨ r = 1 ∨ r = 2 := by omega
    · exact ⟨_, .inl rfl, at0 _ _⟩
    · exact ⟨_, .inr (.inl rfl), at1 _ _ _⟩
    · exact ⟨_, .inr (.inr rfl), at2 _ _ _ _⟩
  obtain ⟨n1, n2, n3, n4⟩ := nm_ok h hh
  have hl7 : h.length ≤ 7 := by rcases hh with rfl | rfl | rfl <;> decide +kernel
  have z3 : (3 : Nat) ≤ sizeLine := by decide
  have z4 : (4 : Nat) ≤ sizeLine := by decide
  have z2 : (2 : Nat) ≤ sizeLine := by decide
  have lc : ∀ (t : Str) (f : A → Mem → Out (Option A)), (∀ c, f (.str ⟨#[c]⟩) M1 = .ok (some (.str (h ++ ⟨#[c]⟩))) M1) → lcL f (t.cps.toList.map fun c => A.str ⟨#[c]⟩) M1 = .ok (nmL h t) M1 := by
    intro t f hf
    unfold nmL
    refine lcL_eq _ fun x hx => ?_
    obtain ⟨c, _, rfl⟩ := List.mem_map.mp hx
    exact hf c
  have one : ∀ c : Nat, h.length + (⟨#[c]⟩ : Str).length ≤ sizeLine := fun c => by
    have : (⟨#[c]⟩ : Str).length = 1 := rfl
    have : (8 : Nat) ≤ sizeLine := by decide
    omega
  rw [run_def lk_f_law_names]
  simp [evSs, evS, evE, evEs, evT, evTs, evO, evI, retOf, startA, cA, isiA, tyA, isiT, outB, outT, outV, outI, truA, one?, ints2?, bltA, blt1, blt2, toIntA, idxA, asSeq, asL, cmpB, ltA, ltI, binA, addA, binN, MP.binI, setA, f_law_names, e1, eh, finL, z3, z2, itemsOf]
  rw [lc (Str.ofString "abcd") _ (fun c => by simp [evSs, evS, evE, evEs, evT, evTs, evO, evI, retOf, startA, cA, isiA, tyA, isiT, outB, outT, outV, outI, truA, one?, ints2?, bltA, blt1, blt2, toIntA, idxA, asSeq, asL, cmpB, ltA, ltI, binA, addA, binN, MP.binI, setA, bindT, wipeA, one])]
  simp [n2, z4]
  rw [lc (Str.ofString "rst") _ (fun c => by simp [evSs, evS, evE, evEs, evT, evTs, evO, evI, retOf, startA, cA, isiA, tyA, isiT, outB, outT, outV, outI, truA, one?, ints2?, bltA, blt1, blt2, toIntA, idxA, asSeq, asL, cmpB, ltA, ltI, binA, addA, binN, MP.binI, setA, bindT, wipeA, one])]
  have c3 : (cutA (nmL h (Str.ofString "abcd")) none (some 3)).length ≤ sizeLine := Nat.le_trans (cut_len _ _ _) (by rw [n2]; exact z4)
  have c4 : (cutA (nmL h (Str.ofString "abcd")) none (some 3)).length = 3 := by
    unfold cutA
    rw [List.length_take, List.length_drop, n2]
    decide
  have c5 : (cutA (nmL h (Str.ofString "abcd")) none (some 3)).all nm = true := by
    rw [List.all_eq_true] at n1 ⊢
    exact fun x hx => n1 x (cut_sub hx)
  by_cases hr : r' = 0
  · refine ⟨.tup [.lst (nmL h (Str.ofString "abcd")), .lst (cutA (nmL h (Str.ofString "abcd")) none (some 3))], M2, ?_, ⟨_, _, rfl, n1, c5, .inr n2, .inl c4⟩, s2⟩
    simp [n4, z3, z2, sliceA, finL, e2, eq_int, asL, c3, at0, at1, hr]
  · refine ⟨.tup [.lst (nmL h (Str.ofString "abcd")), .lst (nmL h (Str.ofString "rst"))], M2, ?_, ⟨_, _, rfl, n1, n3, .inr n2, .inl n4⟩, s2⟩
    simp [n4, z3, z2, sliceA, finL, e2, eq_int, asL, c3, at0, at1, hr]
def cl (n : Nat) (v : A) : Bool := gd n v && (!hasD v && !v.hasL)
theorem nm_cl {v : A} (h : nm v = true) : cl 1 v = true := by
  cases v with
  | str s =>
    have h' : gd 1 (.str s) = true := by
      simp only [gd]
      exact h
    simp only [cl, h', hasD, A.hasL]
    rfl
  | _ => exact Bool.noConfusion h
/-- a drawn concept -/
theorem r_concept (k : Nat) (M : Mem) (n : Nat) (v : A) (hM : SI M n) (hv : NM v) : ∃ w x M', R (k + 3) (Str.ofString "_law_concept") [.ref n, v] M = .ok (.tup [.str w, x]) M' ∧ tr (.str w) = true ∧ nm x = true ∧ SI M' n := by
  obtain ⟨C, Rn, rfl, c1, c2, c3, c4⟩ := hv
  obtain ⟨r, M1, e1, p1, p2, s1⟩ := r_draw (k + 1) M n 4 hM (by decide) (by decide)
  have z4 : (4 : Nat) ≤ sizeLine := by decide
  have z2 : (2 : Nat) ≤ sizeLine := by decide
  obtain ⟨w, hw, ew⟩ : ∃ w, (w = tCon ∨ w = tOut ∨ w = tIn) ∧ L2.atI [A.str tCon, .str tCon, .str tOut, .str tIn] r = some (.str w) := by
    obtain rfl | rfl | rfl | rfl : r = 0 ∨ r = 1 ∨ r = 2 ∨ r = 3 := by omega
    · exact ⟨_, .inl rfl, at0 _ _⟩
    · exact ⟨_, .inl rfl, at1 _ _ _⟩
    · exact ⟨_, .inr (.inl rfl), at2 _ _ _ _⟩
    · exact ⟨_, .inr (.inr rfl), rfl⟩
  have tw : tr (.str w) = true := by rcases hw with rfl | rfl | rfl <;> decide +kernel
  by_cases hq : w = tCon
  · obtain ⟨x, hx, M2, e2, s2⟩ := r_choose k M1 n C s1 (by omega) (by omega)
    refine ⟨w, x, M2, ?_, tw, List.all_eq_true.mp c1 x hx, s2⟩
    rw [run_def lk_f_law_concept]
    simp [evSs, evS, evE, evEs, evT, evTs, evO, evI, retOf, startA, cA, isiA, tyA, isiT, outB, outT, outV, outI, truA, one?, ints2?, bltA, blt1, blt2, toIntA, idxA, asSeq, asL, cmpB, ltA, ltI, binA, addA, binN, MP.binI, setA, f_law_concept, e1, ew, finL, z4, z2, eq_str, hq, at0, e2]
  · obtain ⟨x, hx, M2, e2, s2⟩ := r_choose k M1 n Rn s1 (by omega) (by omega)
    refine ⟨w, x, M2, ?_, tw, List.all_eq_true.mp c2 x hx, s2⟩
    have hq' : ¬ tCon = w := fun e => hq e.symm
    rw [run_def lk_f_law_concept]
    simp [evSs, evS, evE, evEs, evT, evTs, evO, evI, retOf, startA, cA, isiA, tyA, isiT, outB, outT, outV, outI, truA, one?, ints2?, bltA, blt1, blt2, toIntA, idxA, asSeq, asL, cmpB, ltA, ltI, binA, addA, binN, MP.binI, setA, f_law_concept, e1, ew, finL, z4, z2, eq_str, hq, hq', at0, at1, e2]
end K01

namespace K01
open PySem PySem.Spec PyProof.Rows L2 MP
theorem gd_mono : ∀ (n : Nat) (v : A), gd n v = true → gd (n + 1) v = true := by
  intro n
  induction n with
  | zero =>
    intro v h
    cases v with
    | tup xs => exact Bool.noConfusion h
    | lst xs => exact Bool.noConfusion h
    | _ => simpa only [gd] using h
  | succ n ih =>
    intro v h
    cases v with
    | tup xs =>
      rw [gd, Bool.and_eq_true, List.all_eq_true] at h ⊢
      exact ⟨h.1, fun x hx => ih x (h.2 x hx)⟩
    | lst xs =>
      rw [gd, Bool.and_eq_true, List.all_eq_true] at h ⊢
      exact ⟨h.1, fun x hx => ih x (h.2 x hx)⟩
    | _ => simpa only [gd] using h
def cln (v : A) : Bool := !hasD v && !v.hasL
theorem hasDs_any : ∀ xs : List A, hasDs xs = xs.any hasD
  | [] => rfl
  | x :: xs => by simp only [hasDs, List.any_cons, hasDs_any xs]
theorem hasLs_any : ∀ xs : List A, A.hasLs xs = xs.any A.hasL
  | [] => rfl
  | x :: xs => by simp only [A.hasLs, List.any_cons, hasLs_any xs]
theorem cln_D {xs : List A} (h : xs.all cln = true) : hasDs xs = false := by
  rw [hasDs_any, List.any_eq_false]
  intro x hx
  have := List.all_eq_true.mp h x hx
  simp only [cln, Bool.and_eq_true, Bool.not_eq_true'] at this
  rw [this.1]; decide
theorem cln_L {xs : List A} (h : xs.all cln = true) : A.hasLs xs = false := by
  rw [hasLs_any, List.any_eq_false]
  intro x hx
  have := List.all_eq_true.mp h x hx
  simp only [cln, Bool.and_eq_true, Bool.not_eq_true'] at this
  rw [this.2]; decide
theorem ok1_all {xs : List A} (h : xs.all cln = true) : ok1 (.tup xs) = true ∧ ok1 (.lst xs) = true := by
  simp only [ok1, hasD, cln_D h, Bool.not_false, Bool.true_or, and_self]
theorem ok1_one {p q : List A} {o : A} (hp : p.all cln = true) (hq : q.all cln = true) (ho : ok1 o = true) : ok1 (.tup (p ++ o :: q)) = true := by
  have e1 : hasDs (p ++ o :: q) = hasD o := by
    rw [hasDs_any, List.any_append, List.any_cons, ← hasDs_any, ← hasDs_any, cln_D hp, cln_D hq, Bool.false_or, Bool.or_false]
  have e2 : A.hasLs (p ++ o :: q) = o.hasL := by
    rw [hasLs_any, List.any_append, List.any_cons, ← hasLs_any, ← hasLs_any, cln_L hp, cln_L hq, Bool.false_or, Bool.or_false]
  simp only [ok1, hasD, A.hasL, e1, e2]
  exact ho
theorem cl_of {n : Nat} {v : A} (h : cl n v = true) : gd n v = true ∧ cln v = true := by
  unfold cl at h
  rw [Bool.and_eq_true] at h
  exact h
/-- drawn parts -/
structure Parts (xs : List A) : Prop where
  len : xs.length ≤ 3
  pos : 1 ≤ xs.length
  g : ∀ x ∈ xs, gd 1 x = true
  c : ∀ x ∈ xs, cln x = true
/-- what a mutation gives -/
def Mu (n : Nat) (v : A) : Prop := gd n v = true ∧ ok1 v = true
theorem mu_lst {xs : List A} (h : Parts xs) : Mu 3 (.lst xs) := by
  refine ⟨?_, (ok1_all (List.all_eq_true.mpr h.c)).2⟩
  rw [gd, Bool.and_eq_true, List.all_eq_true]
  have := h.len
  exact ⟨decide_eq_true (by omega), fun x hx => gd_mono _ _ (h.g x hx)⟩
theorem mu_tup {ys : List A} (h1 : ys.length ≤ 8) (h2 : ∀ y ∈ ys, gd 1 y = true) (h3 : ∀ y ∈ ys, cln y = true) : Mu 3 (.tup ys) := by
  refine ⟨?_, (ok1_all (List.all_eq_true.mpr h3)).1⟩
  rw [gd, Bool.and_eq_true, List.all_eq_true]
  exact ⟨decide_eq_true h1, fun x hx => gd_mono _ _ (h2 x hx)⟩
theorem mu_one {n : Nat} {p q : List A} {o : A} (h1 : p.length + q.length ≤ 7) (hp : ∀ y ∈ p, gd n y = true ∧ cln y = true) (hq : ∀ y ∈ q, gd n y = true ∧ cln y = true) (ho : Mu n o) : Mu (n + 1) (.tup (p ++ o :: q)) := by
  refine ⟨?_, ok1_one (List.all_eq_true.mpr fun y hy => (hp y hy).2) (List.all_eq_true.mpr fun y hy => (hq y hy).2) ho.2⟩
  rw [gd, Bool.and_eq_true, List.all_eq_true]
  refine ⟨decide_eq_true (by rw [List.length_append, List.length_cons]; omega), fun x hx => ?_⟩
  rcases List.mem_append.mp hx with hx | hx
  · exact (hp x hx).1
  · rcases List.mem_cons.mp hx with rfl | hx
    · exact ho.1
    · exact (hq x hx).1
theorem mu_okv {n : Nat} {v : A} (h : Mu n v) (hn : n ≤ 5) : okv v = true := by
  unfold okv
  rw [Bool.and_eq_true]
  refine ⟨?_, h.2⟩
  obtain ⟨k, e⟩ := Nat.exists_eq_add_of_le hn
  have : ∀ k n v, gd n v = true → gd (n + k) v = true := by
    intro k
    induction k with
    | zero => exact fun n v h => h
    | succ k ih => exact fun n v h => gd_mono _ _ (ih n v h)
  have h5 := this k n v h.1
  rw [← e] at h5
  exact h5
def oddA : List A := [.non, .bl true, .int 1, .str (Str.ofString ""), .str (Str.ofString "a b"), .str (Str.ofString "A"), .str (Str.ofString "abcdefghi"), .tup [], .lst [], .dct [], .lst [.str (Str.ofString "out"), .str (Str.ofString "r")], .tup [.str (Str.ofString "concept")], .tup [.str (Str.ofString "out"), .int 1], .tup [.str (Str.ofString "in"), .str (Str.ofString "")],
  .str (Str.ofString "subclass"), .str (Str.ofString "functional"), .str (Str.ofString "out"), .tup [.str (Str.ofString "out"), .str (Str.ofString "r")], .tup [.str (Str.ofString "concept"), .str (Str.ofString "a")], .tup [.str (Str.ofString "concept"), .tup [.str (Str.ofString "concept"), .str (Str.ofString "a")]]]
theorem odd_ok : oddA.all (fun o => gd 2 o && ok1 o) = true := by decide +kernel
theorem cut_parts {xs : List A} (h : Parts xs) (lo hi : Option Int) : (cutA xs lo hi).length ≤ 3 ∧ (∀ x ∈ cutA xs lo hi, gd 1 x = true) ∧ ∀ x ∈ cutA xs lo hi, cln x = true :=
  ⟨Nat.le_trans (cut_len _ _ _) h.len, fun x hx => h.g x (cut_sub hx), fun x hx => h.c x (cut_sub hx)⟩
theorem r_mutated (k : Nat) (M : Mem) (n : Nat) (xs : List A) (hM : SI M n) (h : Parts xs) : ∃ y M', R (k + 3) (Str.ofString "_law_mutated") [.ref n, .tup xs] M = .ok y M' ∧ Mu 3 y ∧ SI M' n := by
  have hl := h.len
  have hp := h.pos
  obtain ⟨r, M1, e1, p1, p2, s1⟩ := r_draw (k + 1) M n (xs.length : Int) hM (by omega) (by omega)
  obtain ⟨r', M2, e2, q1, q2, s2⟩ := r_draw (k + 1) M1 n 6 s1 (by decide) (by decide)
  obtain ⟨o, ho, M3, e3, s3⟩ := r_choose k M2 n oddA s2 (by decide +kernel) (by decide +kernel)
  have mo : Mu 2 o := by
    have := List.all_eq_true.mp odd_ok o ho
    rw [Bool.and_eq_true] at this
    exact this
  have gm : ∀ {y : A}, gd 1 y = true → gd 2 y = true := fun h => gd_mono _ _ h
  obtain ⟨a1, a2, a3⟩ := cut_parts h none (some r)
  obtain ⟨b1, b2, b3⟩ := cut_parts h (some (r + 1)) none
  have z20 : (20 : Nat) ≤ sizeLine := by decide
  have z14 : (14 : Nat) ≤ sizeLine := by decide
  have z8 : ∀ m : Nat, m ≤ 8 → m ≤ sizeLine := fun m h => Nat.le_trans h (by decide)
  have z6 : (6 : Nat) ≤ sizeLine := by decide
  have z1 : (1 : Nat) ≤ sizeLine := by decide
  have z2 : (2 : Nat) ≤ sizeLine := by decide
  have zx : xs.length ≤ sizeLine := z8 _ (by omega)
  simp only [oddA] at e3
  rw [run_def lk_f_law_mutated]
  by_cases h0 : r' = 0
  · refine ⟨.lst xs, M2, ?_, mu_lst h, s2⟩
    simp [evSs, evS, evE, evEs, evT, evTs, evO, evI, retOf, startA, cA, isiA, tyA, isiT, outB, outT, outV, outI, truA, one?, ints2?, bltA, blt1, blt2, toIntA, idxA, asSeq, asL, cmpB, ltA, ltI, binA, addA, binN, MP.binI, setA, f_law_mutated, finL, z14, z6, z20, z1, z2, lenA, e1, e2, eq_int, h0, zx]
  · by_cases h1 : r' = 1
    · refine ⟨.tup (cutA xs none (some r) ++ cutA xs (some (r + 1)) none), M2, ?_, mu_tup (by rw [List.length_append]; omega) (fun y hy => ?_) (fun y hy => ?_), s2⟩
      · have zz : (cutA xs none (some r)).length + (cutA xs (some (r + 1)) none).length ≤ sizeLine := z8 _ (by omega)
        simp [evSs, evS, evE, evEs, evT, evTs, evO, evI, retOf, startA, cA, isiA, tyA, isiT, outB, outT, outV, outI, truA, one?, ints2?, bltA, blt1, blt2, toIntA, idxA, asSeq, asL, cmpB, ltA, ltI, binA, addA, binN, MP.binI, setA, f_law_mutated, finL, z14, z6, z20, z1, z2, lenA, e1, e2, eq_int, h1, zx, sliceA, zz]
      · exact (List.mem_append.mp hy).elim (a2 y) (b2 y)
      · exact (List.mem_append.mp hy).elim (a3 y) (b3 y)
    · by_cases h2 : r' = 2
      · refine ⟨.tup (xs ++ [o]), M3, ?_, mu_one (by simp; omega) (fun y hy => ⟨gm (h.g y hy), h.c y hy⟩) (fun y hy => by cases hy) mo, s3⟩
        have zz : xs.length + 1 ≤ sizeLine := z8 _ (by omega)
        simp [evSs, evS, evE, evEs, evT, evTs, evO, evI, retOf, startA, cA, isiA, tyA, isiT, outB, outT, outV, outI, truA, one?, ints2?, bltA, blt1, blt2, toIntA, idxA, asSeq, asL, cmpB, ltA, ltI, binA, addA, binN, MP.binI, setA, f_law_mutated, finL, z14, z6, z20, z1, z2, lenA, e1, e2, eq_int, h2, zx, e3, zz]
      · refine ⟨.tup (cutA xs none (some r) ++ o :: cutA xs (some (r + 1)) none), M3, ?_, mu_one (by omega) (fun y hy => ⟨gm (a2 y hy), a3 y hy⟩) (fun y hy => ⟨gm (b2 y hy), b3 y hy⟩) mo, s3⟩
        have zz : (cutA xs none (some r)).length + 1 ≤ sizeLine := z8 _ (by omega)
        have zw : (cutA xs none (some r)).length + 1 + (cutA xs (some (r + 1)) none).length ≤ sizeLine := z8 _ (by omega)
        simp [evSs, evS, evE, evEs, evT, evTs, evO, evI, retOf, startA, cA, isiA, tyA, isiT, outB, outT, outV, outI, truA, one?, ints2?, bltA, blt1, blt2, toIntA, idxA, asSeq, asL, cmpB, ltA, ltI, binA, addA, binN, MP.binI, setA, f_law_mutated, finL, z14, z6, z20, z1, z2, lenA, e1, e2, eq_int, h0, h1, h2, zx, e3, sliceA, zz, zw]
def menuA : List A := [.str (Str.ofString "subclass"), .str (Str.ofString "disjoint"), .str (Str.ofString "subrole"), .str (Str.ofString "subrole_inverse"), .str (Str.ofString "disjoint_roles"), .str (Str.ofString "disjoint_inverse"), .str (Str.ofString "functional")]
theorem menu_ok : menuA.all nm = true := by decide +kernel
theorem nm_str {v : A} (h : nm v = true) : ∃ s, v = .str s ∧ tr (.str s) = true := by
  cases v with
  | str s => exact ⟨s, rfl, h⟩
  | _ => exact Bool.noConfusion h
theorem nm_gc {v : A} (h : nm v = true) (n : Nat) : gd n v = true ∧ cln v = true := by
  obtain ⟨s, rfl, h2⟩ := nm_str h
  refine ⟨?_, rfl⟩
  cases n <;> simpa only [gd] using h2
theorem pair_gc {w : Str} {x : A} (hw : tr (.str w) = true) (hx : nm x = true) : gd 1 (.tup [.str w, x]) = true ∧ cln (.tup [.str w, x]) = true := by
  obtain ⟨s, rfl, h⟩ := nm_str hx
  refine ⟨?_, rfl⟩
  simp [gd, hw, h]
/-- a drawn value -/
def Vv (v : A) : Prop := ∃ w r, v = .tup (.str w :: r) ∧ tr (.str w) = true ∧ (r.length = 1 ∨ r.length = 2) ∧ (∀ y ∈ r, gd 1 y = true) ∧ ∀ y ∈ r, cln y = true
theorem Vv.parts {w : Str} {r : List A} (h : Vv (.tup (.str w :: r))) : Parts (.str w :: r) := by
  obtain ⟨w', r', e, h1, h2, h3, h4⟩ := h
  cases e
  have hw := nm_gc (v := .str w) h1 1
  refine ⟨by rw [List.length_cons]; omega, by rw [List.length_cons]; omega, fun x hx => ?_, fun x hx => ?_⟩
  · rcases List.mem_cons.mp hx with rfl | hx
    · exact hw.1
    · exact h3 x hx
  · rcases List.mem_cons.mp hx with rfl | hx
    · exact hw.2
    · exact h4 x hx
theorem vv_one {w : Str} {x : A} (hw : tr (.str w) = true) (hx : gd 1 x = true ∧ cln x = true) : Vv (.tup [.str w, x]) :=
  ⟨w, [x], rfl, hw, .inl rfl, fun y hy => by simp at hy; subst hy; exact hx.1, fun y hy => by simp at hy; subst hy; exact hx.2⟩
theorem vv_two {w : Str} {x z : A} (hw : tr (.str w) = true) (hx : gd 1 x = true ∧ cln x = true) (hz : gd 1 z = true ∧ cln z = true) : Vv (.tup [.str w, x, z]) :=
  ⟨w, [x, z], rfl, hw, .inr rfl, fun y hy => by simp at hy; rcases hy with rfl | rfl; exact hx.1; exact hz.1, fun y hy => by simp at hy; rcases hy with rfl | rfl; exact hx.2; exact hz.2⟩
theorem r_axiom (k : Nat) (M : Mem) (n : Nat) (v : A) (hM : SI M n) (hv : NM v) : ∃ y M', R (k + 4) (Str.ofString "_law_axiom") [.ref n, v, .lst menuA] M = .ok y M' ∧ Vv y ∧ SI M' n := by
  obtain ⟨x, hx, M1, e1, s1⟩ := r_choose (k + 1) M n menuA hM (by decide) (by decide)
  obtain ⟨w, rfl, hw⟩ := nm_str (List.all_eq_true.mp menu_ok x hx)
  have z2 : (2 : Nat) ≤ sizeLine := by decide
  have z3 : (3 : Nat) ≤ sizeLine := by decide
  by_cases h1 : (w = Str.ofString "subclass") ∨ (w = Str.ofString "disjoint")
  · obtain ⟨u1, x1, M2, e2, t1, n1, s2⟩ := r_concept k M1 n v s1 hv
    obtain ⟨u2, x2, M3, e3, t2, n2, s3⟩ := r_concept k M2 n v s2 hv
    refine ⟨_, M3, ?_, vv_two hw (pair_gc t1 n1) (pair_gc t2 n2), s3⟩
    rw [run_def lk_f_law_axiom]
    by_cases h2 : w = Str.ofString "subclass"
    · simp [evSs, evS, evE, evEs, evT, evTs, evO, evI, retOf, startA, cA, isiA, tyA, isiT, outB, outT, outV, outI, truA, one?, ints2?, bltA, blt1, blt2, toIntA, idxA, asSeq, asL, cmpB, ltA, ltI, binA, addA, binN, MP.binI, setA, f_law_axiom, e1, eq_str, h2, e2, e3, z3]
    · have h3 := h1.resolve_left h2
      have h2' : ¬ Str.ofString "subclass" = w := fun e => h2 e.symm
      subst h3
      simp [evSs, evS, evE, evEs, evT, evTs, evO, evI, retOf, startA, cA, isiA, tyA, isiT, outB, outT, outV, outI, truA, one?, ints2?, bltA, blt1, blt2, toIntA, idxA, asSeq, asL, cmpB, ltA, ltI, binA, addA, binN, MP.binI, setA, f_law_axiom, e1, eq_str, h2, h2', e2, e3, z3]
  · have a1 : ¬ Str.ofString "subclass" = w := fun e => h1 (.inl e.symm)
    have a2 : ¬ Str.ofString "disjoint" = w := fun e => h1 (.inr e.symm)
    obtain ⟨C, Rn, rfl, c1, c2, c3, c4⟩ := hv
    by_cases h3 : w = tFun
    · subst h3
      obtain ⟨r, M2, e2, p1, p2, s2⟩ := r_draw (k + 2) M1 n 2 s1 (by decide) (by decide)
      obtain ⟨y, hy, M3, e3, s3⟩ := r_choose (k + 1) M2 n Rn s2 (by omega) (by omega)
      obtain ⟨u, hu, eu⟩ : ∃ u, tr (.str u) = true ∧ L2.atI [A.str tOut, .str tIn] r = some (.str u) := by
        obtain rfl | rfl : r = 0 ∨ r = 1 := by omega
        · exact ⟨_, by decide +kernel, at0 _ _⟩
        · exact ⟨_, by decide +kernel, at1 _ _ _⟩
      refine ⟨_, M3, ?_, vv_one hw (pair_gc hu (List.all_eq_true.mp c2 y hy)), s3⟩
      rw [run_def lk_f_law_axiom]
      simp [evSs, evS, evE, evEs, evT, evTs, evO, evI, retOf, startA, cA, isiA, tyA, isiT, outB, outT, outV, outI, truA, one?, ints2?, bltA, blt1, blt2, toIntA, idxA, asSeq, asL, cmpB, ltA, ltI, binA, addA, binN, MP.binI, setA, f_law_axiom, e1, eq_str, a1, a2, e2, e3, eu, finL, z2, at1]
    · have a3 : ¬ tFun = w := fun e => h3 e.symm
      obtain ⟨y, hy, M2, e2, s2⟩ := r_choose (k + 1) M1 n Rn s1 (by omega) (by omega)
      obtain ⟨y', hy', M3, e3, s3⟩ := r_choose (k + 1) M2 n Rn s2 (by omega) (by omega)
      refine ⟨_, M3, ?_, vv_two hw (nm_gc (List.all_eq_true.mp c2 y hy) 1) (nm_gc (List.all_eq_true.mp c2 y' hy') 1), s3⟩
      rw [run_def lk_f_law_axiom]
      simp [evSs, evS, evE, evEs, evT, evTs, evO, evI, retOf, startA, cA, isiA, tyA, isiT, outB, outT, outV, outI, truA, one?, ints2?, bltA, blt1, blt2, toIntA, idxA, asSeq, asL, cmpB, ltA, ltI, binA, addA, binN, MP.binI, setA, f_law_axiom, e1, eq_str, a1, a2, a3, e2, e3, z3, at1]
end K01

namespace K01
open PySem PySem.Spec PyProof.Rows L2 MP
def fixedA : List A := [.non, .bl true, .int 0, .int 5, .str (Str.ofString ""), .str (Str.ofString "concept"), .tup [], .lst [], .dct [], .tup [.str (Str.ofString "concept")], .tup [.str (Str.ofString "concept"), .str (Str.ofString "a"), .str (Str.ofString "b")], .lst [.str (Str.ofString "concept"), .str (Str.ofString "a")], .tup [.str (Str.ofString "concept"), .str (Str.ofString "A")], .tup [.str (Str.ofString "concept"), .str (Str.ofString "")], .tup [.str (Str.ofString "concept"), .str (Str.ofString "abcdefgh")], .tup [.str (Str.ofString "concept"), .str (Str.ofString "abcdefghi")], .tup [.str (Str.ofString "out"), .int 5], .tup [.str (Str.ofString "in"), .str (Str.ofString "r1")], .tup [.str (Str.ofString "Has"), .str (Str.ofString "r")], .tup [.str (Str.ofString "kinds"), .str (Str.ofString "a")], .tup [.int 5, .str (Str.ofString "a")], .tup [.lst [.str (Str.ofString "out")], .str (Str.ofString "r")], .tup [.dct [], .str (Str.ofString "r")], .tup [.str (Str.ofString "out"), .str (Str.ofString "r ")], .tup [.str (Str.ofString "in"), .str (Str.ofString " r")], .tup [.str (Str.ofString "out"), .str (Str.ofString "r\n")], .tup [.str (Str.ofString "out"), .lst [.str (Str.ofString "r")]], .tup [.tup [.str (Str.ofString "out"), .str (Str.ofString "r")]], .tup [.bl true, .str (Str.ofString "a")], .tup [.str (Str.ofString "functional")], .tup [.str (Str.ofString "functional"), .str (Str.ofString "r")], .tup [.str (Str.ofString "functional"), .tup [.str (Str.ofString "concept"), .str (Str.ofString "a")]], .tup [.str (Str.ofString "subclass"), .str (Str.ofString "a"), .str (Str.ofString "b")], .tup [.str (Str.ofString "subrole"), .tup [.str (Str.ofString "out"), .str (Str.ofString "r")], .tup [.str (Str.ofString "out"), .str (Str.ofString "s")]], .tup [.str (Str.ofString "disjoint_roles"), .str (Str.ofString "r")], .tup [.str (Str.ofString "disjoint_inverse"), .str (Str.ofString "r"), .str (Str.ofString "r"), .str (Str.ofString "r")], .tup [.str (Str.ofString "functional"), .tup [.str (Str.ofString "out"), .str (Str.ofString "r")], .tup [.str (Str.ofString "out"), .str (Str.ofString "r")]], .tup [.str (Str.ofString "subclass"), .tup [.str (Str.ofString "concept"), .str (Str.ofString "a")]]]
theorem fixed_ok : fixedA.all okv = true := by decide +kernel
theorem r_fixed (k : Nat) : ∃ M', R (k + 1) (Str.ofString "_law_fixed") [] [] = .ok (.lst fixedA) M' := by
  rw [run_def lk_f_law_fixed]
  have z : ∀ m : Nat, m ≤ 100 → m ≤ sizeLine := fun m h => Nat.le_trans h (by decide)
  have zl : ∀ m : Nat, m ≤ 100 → m < sizeLine := fun m h => Nat.lt_of_le_of_lt h (by decide)
  simp [evSs, evS, evE, evEs, evT, evTs, evO, evI, retOf, startA, cA, isiA, tyA, isiT, outB, outT, outV, outI, truA, one?, ints2?, bltA, blt1, blt2, toIntA, idxA, asSeq, asL, cmpB, ltA, ltI, binA, addA, binN, MP.binI, setA, f_law_fixed, finL, recvOk, methA, appA, z, zl, fixedA]
def bodyV : List S := [.ife (.or (.not (.call (Str.ofString "_law_check") [(.var 1)])) (.not (.call (Str.ofString "_law_check") [(.call (Str.ofString "_law_mutated") [(.var 4), (.var 1)])]))) [.ret (.con (.bool false))] [], .asg 7 (.call (Str.ofString "_law_mutated") [(.var 4), (.tup [(.con (.str (Str.ofString "out"))), (.idx (.idx (.var 5) (.con (.int 1))) (.con (.int 0)))])]), .ife (.and (.cmp .In (.idx (.var 1) (.con (.int 0))) (.var 2)) (.not (.call (Str.ofString "_law_check") [(.bin false .Add (.slice false (.var 1) none (some (.neg (.con (.int 1))))) (.tup [(.var 7)]))]))) [.ret (.con (.bool false))] []]
def forV : S := .forS (.name 1) (.over (.lst false [(.call (Str.ofString "_law_concept") [(.var 4), (.var 5)]), (.call (Str.ofString "_law_axiom") [(.var 4), (.var 5), (.var 2)])])) bodyV
def forT : S := .forS (.name 6) (.range1 (.con (.int 6))) [forV]
def forK : S := .forS (.name 3) (.range1 (.blt false .max [(.con (.int 1)), (.blt false .min [(.con (.int 12)), (.blt false .len [(.var 0)])])])) [.asg 4 (.call (Str.ofString "_law_stream") [(.var 0), (.var 3)]), .asg 5 (.call (Str.ofString "_law_names") [(.var 4)]), forT]
theorem law_body : f_law.body = [.ife (.cmp .NotEq (.lc false [1] (.var 1) (.name 1) (.over (.call (Str.ofString "_law_fixed") [])) [(.not (.call (Str.ofString "_law_check") [(.var 1)]))]) (.lst false [])) [.ret (.con (.bool false))] [], .asg 2 (.lst false [(.con (.str (Str.ofString "subclass"))), (.con (.str (Str.ofString "disjoint"))), (.con (.str (Str.ofString "subrole"))), (.con (.str (Str.ofString "subrole_inverse"))), (.con (.str (Str.ofString "disjoint_roles"))), (.con (.str (Str.ofString "disjoint_inverse"))), (.con (.str (Str.ofString "functional")))]), forK, .ret (.con (.bool true))] := rfl
theorem evS_for (P : Par) (tg : Tg) (it : MP.It) (b : List S) (ς : MP.Loc) (M : Mem) : evS P (.forS tg it b) ς M = (evI P it ς M).bind fun xs M1 => forL (turnF P tg b) xs ς M1 := by
  simp only [evS]
  rfl
theorem forL_all {f : A → MP.Loc → Mem → Out (Fl × MP.Loc)} (Iv : MP.Loc → Mem → Prop) : ∀ xs : List A, (∀ x ∈ xs, ∀ ς M, Iv ς M → ∃ ς' M', f x ς M = .ok (.nxt, ς') M' ∧ Iv ς' M') → ∀ ς M, Iv ς M → ∃ ς' M', forL f xs ς M = .ok (.nxt, ς') M' ∧ Iv ς' M'
  | [], _, ς, M, h => ⟨ς, M, rfl, h⟩
  | x :: xs, hs, ς, M, h => by
    obtain ⟨ς1, M1, e1, h1⟩ := hs x List.mem_cons_self ς M h
    obtain ⟨ς2, M2, e2, h2⟩ := forL_all Iv xs (fun y hy => hs y (List.mem_cons_of_mem _ hy)) ς1 M1 h1
    exact ⟨ς2, M2, by simp only [forL, e1, Out.bind_ok, e2], h2⟩
abbrev PP (k : Nat) : Par := ⟨R (k + 6), G0, wf⟩
def Iv2 (sc : A) (n : Nat) (ς : MP.Loc) (M : Mem) : Prop := ∃ v1 v3 nv v6 v7, ς = [some sc, v1, some (.lst menuA), v3, some (.ref n), some nv, v6, v7] ∧ NM nv ∧ SI M n
theorem out_nm (nv : A) (h : NM nv) : ∃ C Rn x, nv = .tup [.lst C, .lst Rn] ∧ L2.atI Rn 0 = some x ∧ nm x = true := by
  obtain ⟨C, Rn, rfl, c1, c2, c3, c4⟩ := h
  cases Rn with
  | nil => simp at c4
  | cons x r =>
    simp only [List.all_cons, Bool.and_eq_true] at c2
    exact ⟨C, x :: r, x, rfl, at0 _ _, c2.1⟩
theorem in_menu (w : Str) (M : Mem) : ∃ b, inA (.str w) (.lst menuA) M = some b := by
  have h : (flatA (.str w) && menuA.all flatA) = true := by
    simp [menuA, flatA]
  exact ⟨menuA.any fun y => eqF y (.str w), by simp only [inA, inSeq, asSeq, asL, h, if_true]⟩
theorem stepV (k : Nat) (sc : A) (n : Nat) (x : A) (hx : Vv x) (ς : MP.Loc) (M : Mem) (h : Iv2 sc n ς M) : ∃ ς' M', turnF (PP k) (.name 1) bodyV x ς M = .ok (.nxt, ς') M' ∧ Iv2 sc n ς' M' := by
  obtain ⟨v1, v3, nv, v6, v7, rfl, hn, hs⟩ := h
  obtain ⟨w, r, rfl, hw, hr1, hr2, hr3⟩ := id hx
  have hp := hx.parts
  obtain ⟨y, M1, e1, m1, s1⟩ := r_mutated (k + 3) M n _ hs hp
  obtain ⟨C, Rn, z, rfl, ez, nz⟩ := out_nm nv hn
  have hq : Parts [.str tOut, z] := by
    refine ⟨by simp, by simp, fun u hu => ?_, fun u hu => ?_⟩
    · simp at hu
      rcases hu with rfl | rfl
      · exact (nm_gc (v := .str tOut) (by decide +kernel) 1).1
      · exact (nm_gc nz 1).1
    · simp at hu
      rcases hu with rfl | rfl
      · exact (nm_gc (v := .str tOut) (by decide +kernel) 1).2
      · exact (nm_gc nz 1).2
  obtain ⟨y2, M2, e2, m2, s2⟩ := r_mutated (k + 3) M1 n _ s1 hq
  have o1 : okv (.tup (.str w :: r)) = true := mu_okv (mu_tup (Nat.le_trans hp.len (by decide)) hp.g hp.c) (by decide)
  have o2 : okv y = true := mu_okv m1 (by decide)
  obtain ⟨c1, c2, c3⟩ := cut_parts hp none (some (-1))
  have o3 : okv (.tup (cutA (.str w :: r) none (some (-1)) ++ [y2])) = true := mu_okv (mu_one (n := 3) (p := cutA (.str w :: r) none (some (-1))) (q := []) (by simp; omega) (fun u hu => ⟨gd_mono _ _ (gd_mono _ _ (c2 u hu)), c3 u hu⟩) (fun u hu => by cases hu) m2) (by decide)
  obtain ⟨b, eb⟩ := in_menu w M2
  have zz : (cutA (.str w :: r) none (some (-1))).length + 1 ≤ sizeLine := Nat.le_trans (by omega) (show 8 ≤ sizeLine by decide)
  have z1 : (1 : Nat) ≤ sizeLine := by decide
  have z2 : (2 : Nat) ≤ sizeLine := by decide
  refine ⟨[some sc, some (.tup (.str w :: r)), some (.lst menuA), v3, some (.ref n), some (.tup [.lst C, .lst Rn]), v6, some y2], M2, ?_, ⟨_, _, _, _, _, rfl, hn, s2⟩⟩
  cases b with
  | true => simp [evSs, evS, evE, evEs, evT, evTs, evO, evI, retOf, startA, cA, isiA, tyA, isiT, outB, outT, outV, outI, truA, one?, ints2?, bltA, blt1, blt2, toIntA, idxA, asSeq, asL, cmpB, ltA, ltI, binA, addA, binN, MP.binI, setA, turnF, bindT, bodyV, r_law_check k _ _ o1, e1, r_law_check k _ _ o2, at0, at1, ez, z2, z1, e2, eb, sliceA, zz, r_law_check k _ _ o3]
  | false => simp [evSs, evS, evE, evEs, evT, evTs, evO, evI, retOf, startA, cA, isiA, tyA, isiT, outB, outT, outV, outI, truA, one?, ints2?, bltA, blt1, blt2, toIntA, idxA, asSeq, asL, cmpB, ltA, ltI, binA, addA, binN, MP.binI, setA, turnF, bindT, bodyV, r_law_check k _ _ o1, e1, r_law_check k _ _ o2, at0, at1, ez, z2, z1, e2, eb, sliceA, zz]
theorem stepForV (k : Nat) (sc : A) (n : Nat) (ς : MP.Loc) (M : Mem) (h : Iv2 sc n ς M) : ∃ ς' M', evS (PP k) forV ς M = .ok (.nxt, ς') M' ∧ Iv2 sc n ς' M' := by
  obtain ⟨v1, v3, nv, v6, v7, rfl, hn, hs⟩ := h
  obtain ⟨w, x, M1, e1, t1, n1, s1⟩ := r_concept (k + 3) M n nv hs hn
  obtain ⟨y, M2, e2, vy, s2⟩ := r_axiom (k + 2) M1 n nv s1 hn
  have z2 : (2 : Nat) ≤ sizeLine := by decide
  have it : evI (PP k) (.over (.lst false [(.call (Str.ofString "_law_concept") [(.var 4), (.var 5)]), (.call (Str.ofString "_law_axiom") [(.var 4), (.var 5), (.var 2)])])) [some sc, v1, some (.lst menuA), v3, some (.ref n), some nv, v6, v7] M = .ok [.tup [.str w, x], y] M2 := by
    simp [evSs, evS, evE, evEs, evT, evTs, evO, evI, retOf, startA, cA, isiA, tyA, isiT, outB, outT, outV, outI, truA, one?, ints2?, bltA, blt1, blt2, toIntA, idxA, asSeq, asL, cmpB, ltA, ltI, binA, addA, binN, MP.binI, setA, e1, e2, finL, z2, itemsOf]
  obtain ⟨ς', M', e3, i3⟩ := forL_all (f := turnF (PP k) (.name 1) bodyV) (Iv2 sc n) [.tup [.str w, x], y] (fun v hv ς M h => by
    refine stepV k sc n v ?_ ς M h
    simp only [List.mem_cons, List.not_mem_nil, or_false] at hv
    rcases hv with rfl | rfl
    · exact vv_one t1 (nm_gc n1 1)
    · exact vy) _ M2 ⟨v1, v3, nv, v6, v7, rfl, hn, s2⟩
  refine ⟨ς', M', ?_, i3⟩
  rw [forV, evS_for, it, Out.bind_ok, e3]
theorem stepT (k : Nat) (sc : A) (n : Nat) (x : A) (ς : MP.Loc) (M : Mem) (h : Iv2 sc n ς M) : ∃ ς' M', turnF (PP k) (.name 6) [forV] x ς M = .ok (.nxt, ς') M' ∧ Iv2 sc n ς' M' := by
  obtain ⟨v1, v3, nv, v6, v7, rfl, hn, hs⟩ := h
  obtain ⟨ς', M', e, i⟩ := stepForV k sc n [some sc, v1, some (.lst menuA), v3, some (.ref n), some nv, some x, v7] M ⟨_, _, _, _, _, rfl, hn, hs⟩
  refine ⟨ς', M', ?_, i⟩
  have b : bindT (.name 6) x [some sc, v1, some (.lst menuA), v3, some (.ref n), some nv, v6, v7] = some [some sc, v1, some (.lst menuA), v3, some (.ref n), some nv, some x, v7] := rfl
  simp only [turnF, b, evSs, e, Out.bind_ok]
theorem stepForT (k : Nat) (sc : A) (n : Nat) (ς : MP.Loc) (M : Mem) (h : Iv2 sc n ς M) : ∃ ς' M', evS (PP k) forT ς M = .ok (.nxt, ς') M' ∧ Iv2 sc n ς' M' := by
  obtain ⟨ς', M', e3, i3⟩ := forL_all (f := turnF (PP k) (.name 6) [forV]) (Iv2 sc n) (rangeA 6) (fun v hv ς M h => stepT k sc n v ς M h) ς M h
  have it : evI (PP k) (.range1 (.con (.int 6))) ς M = .ok (rangeA 6) M := by
    simp [evSs, evS, evE, evEs, evT, evTs, evO, evI, retOf, startA, cA, isiA, tyA, isiT, outB, outT, outV, outI, truA, one?, ints2?, bltA, blt1, blt2, toIntA, idxA, asSeq, asL, cmpB, ltA, ltI, binA, addA, binN, MP.binI, setA]
  refine ⟨ς', M', ?_, i3⟩
  rw [forT, evS_for, it, Out.bind_ok, e3]
def Iv1 (sc : A) (ς : MP.Loc) (M : Mem) : Prop := ∃ v1 v3 v4 v5 v6 v7, ς = [some sc, v1, some (.lst menuA), v3, v4, v5, v6, v7]
theorem stepK (k : Nat) (ns : List Int) (i : Int) (h0 : 0 ≤ i) (h1 : i < 100) (ς : MP.Loc) (M : Mem) (h : Iv1 (scriptA ns) ς M) : ∃ ς' M', turnF (PP k) (.name 3) [.asg 4 (.call (Str.ofString "_law_stream") [(.var 0), (.var 3)]), .asg 5 (.call (Str.ofString "_law_names") [(.var 4)]), forT] (.int i) ς M = .ok (.nxt, ς') M' ∧ Iv1 (scriptA ns) ς' M' := by
  obtain ⟨v1, v3, v4, v5, v6, v7, rfl⟩ := h
  obtain ⟨M1, e1, s1⟩ := r_stream (k + 5) M ns i h0 h1
  obtain ⟨nv, M2, e2, hn, s2⟩ := r_names (k + 4) M1 M.length s1
  obtain ⟨ς', M', e3, i3⟩ := stepForT k (scriptA ns) M.length [some (scriptA ns), v1, some (.lst menuA), some (.int i), some (.ref M.length), some nv, v6, v7] M2 ⟨_, _, _, _, _, rfl, hn, s2⟩
  obtain ⟨v1', v3', nv', v6', v7', eς, _, _⟩ := i3
  refine ⟨ς', M', ?_, ⟨_, _, _, _, _, _, eς⟩⟩
  have b : bindT (.name 3) (.int i) [some (scriptA ns), v1, some (.lst menuA), v3, v4, v5, v6, v7] = some [some (scriptA ns), v1, some (.lst menuA), some (.int i), v4, v5, v6, v7] := rfl
  have a1 : evS (PP k) (.asg 4 (.call (Str.ofString "_law_stream") [(.var 0), (.var 3)])) [some (scriptA ns), v1, some (.lst menuA), some (.int i), v4, v5, v6, v7] M = .ok (.nxt, [some (scriptA ns), v1, some (.lst menuA), some (.int i), some (.ref M.length), v5, v6, v7]) M1 := by
    simp [evSs, evS, evE, evEs, evT, evTs, evO, evI, retOf, startA, cA, isiA, tyA, isiT, outB, outT, outV, outI, truA, one?, ints2?, bltA, blt1, blt2, toIntA, idxA, asSeq, asL, cmpB, ltA, ltI, binA, addA, binN, MP.binI, setA, e1]
  have a2 : evS (PP k) (.asg 5 (.call (Str.ofString "_law_names") [(.var 4)])) [some (scriptA ns), v1, some (.lst menuA), some (.int i), some (.ref M.length), v5, v6, v7] M1 = .ok (.nxt, [some (scriptA ns), v1, some (.lst menuA), some (.int i), some (.ref M.length), some nv, v6, v7]) M2 := by
    simp [evSs, evS, evE, evEs, evT, evTs, evO, evI, retOf, startA, cA, isiA, tyA, isiT, outB, outT, outV, outI, truA, one?, ints2?, bltA, blt1, blt2, toIntA, idxA, asSeq, asL, cmpB, ltA, ltI, binA, addA, binN, MP.binI, setA, e2]
  simp only [turnF, b, evSs, a1, a2, e3, Out.bind_ok]
theorem fm_none : ∀ l : List A, List.filterMap (fun _ => (none : Option A)) l = [] := fun l => by
    induction l with
    | nil => rfl
    | cons x l ih => rw [List.filterMap_cons]; exact ih
abbrev st0 (sc : A) : MP.Loc := [some sc, none, none, none, none, none, none, none]
abbrev st1 (sc : A) : MP.Loc := [some sc, none, some (.lst menuA), none, none, none, none, none]
theorem law_a0 (k : Nat) (sc : A) (M1 : Mem) (e1 : R (k + 6) (Str.ofString "_law_fixed") [] [] = .ok (.lst fixedA) M1) : evS (PP k) (.ife (.cmp .NotEq (.lc false [1] (.var 1) (.name 1) (.over (.call (Str.ofString "_law_fixed") [])) [(.not (.call (Str.ofString "_law_check") [(.var 1)]))]) (.lst false [])) [.ret (.con (.bool false))] []) (st0 sc) [] = .ok (.nxt, st0 sc) M1 := by
  simp [evSs, evS, evE, evEs, evT, evTs, evO, evI, retOf, startA, cA, isiA, tyA, isiT, outB, outT, outV, outI, truA, one?, ints2?, bltA, blt1, blt2, toIntA, idxA, asSeq, asL, cmpB, ltA, ltI, binA, addA, binN, MP.binI, setA, e1, itemsOf]
  rw [lcL_eq (g := fun _ => none)]
  · have q := eq_chs [] M1 (fun c hc => by cases hc)
    simp at q
    simp [finL, q, fm_none]
  · intro x hx
    have := List.all_eq_true.mp fixed_ok x hx
    simp [evSs, evS, evE, evEs, evT, evTs, evO, evI, retOf, startA, cA, isiA, tyA, isiT, outB, outT, outV, outI, truA, one?, ints2?, bltA, blt1, blt2, toIntA, idxA, asSeq, asL, cmpB, ltA, ltI, binA, addA, binN, MP.binI, setA, bindT, wipeA, r_law_check k _ _ this]
theorem law_a1 (k : Nat) (sc : A) (M1 : Mem) : evS (PP k) (.asg 2 (.lst false [(.con (.str (Str.ofString "subclass"))), (.con (.str (Str.ofString "disjoint"))), (.con (.str (Str.ofString "subrole"))), (.con (.str (Str.ofString "subrole_inverse"))), (.con (.str (Str.ofString "disjoint_roles"))), (.con (.str (Str.ofString "disjoint_inverse"))), (.con (.str (Str.ofString "functional")))])) (st0 sc) M1 = .ok (.nxt, st1 sc) M1 := by
  have z7 : (7 : Nat) ≤ sizeLine := by decide
  simp [evSs, evS, evE, evEs, evT, evTs, evO, evI, retOf, startA, cA, isiA, tyA, isiT, outB, outT, outV, outI, truA, one?, ints2?, bltA, blt1, blt2, toIntA, idxA, asSeq, asL, cmpB, ltA, ltI, binA, addA, binN, MP.binI, setA, finL, z7, menuA]
def maxE : E := (.blt false .max [(.con (.int 1)), (.blt false .min [(.con (.int 12)), (.blt false .len [(.var 0)])])])
theorem law_min (k : Nat) (ns : List Int) (M1 : Mem) : evE (PP k) (.blt false .min [(.con (.int 12)), (.blt false .len [(.var 0)])]) (st1 (scriptA ns)) M1 = .ok (.int (if (ns.length : Int) < 12 then ns.length else 12)) M1 := by
  simp [evSs, evS, evE, evEs, evT, evTs, evO, evI, retOf, startA, cA, isiA, tyA, isiT, outB, outT, outV, outI, truA, one?, ints2?, bltA, blt1, blt2, toIntA, idxA, asSeq, asL, cmpB, ltA, ltI, binA, addA, binN, MP.binI, setA, scriptA, lenA]
theorem law_max (k : Nat) (ns : List Int) (M1 : Mem) : evE (PP k) maxE (st1 (scriptA ns)) M1 = .ok (.int (if (if (ns.length : Int) < 12 then (ns.length : Int) else 12) > 1 then (if (ns.length : Int) < 12 then ns.length else 12) else 1)) M1 := by
  have e := law_min k ns M1
  simp only [evE, evEs, Out.bind_ok, cA, maxE] at e ⊢
  rw [e]
  simp only [Out.bind_ok, bltA, one?, ints2?, blt2]
theorem law_m (n : Nat) (hl : n ≤ 63) : ∃ m : Nat, m ≤ 63 ∧ (if (if (n : Int) < 12 then (n : Int) else 12) > 1 then (if (n : Int) < 12 then (n : Int) else 12) else 1) = (m : Int) := by
  by_cases h1 : (n : Int) < 12
  · by_cases h2 : (n : Int) > 1
    · exact ⟨n, hl, by rw [if_pos h1, if_pos h2]⟩
    · exact ⟨1, by omega, by rw [if_pos h1, if_neg h2]; rfl⟩
  · exact ⟨12, by omega, by rw [if_neg h1, if_pos (by decide)]; rfl⟩
theorem range_ok0 (P : Par) (e : E) (ς : MP.Loc) (M M1 : Mem) (m : Nat) (h : evE P e ς M = .ok (.int m) M1) (hb : -(2 ^ 62) ≤ (m : Int) ∧ (m : Int) < 2 ^ 62) : evI P (.range1 e) ς M = .ok (rangeA m) M1 := by
  rw [evI, h, Out.bind_ok]
  exact if_pos hb
theorem range_ok (P : Par) (e : E) (ς : MP.Loc) (M M1 : Mem) (m : Nat) (h : evE P e ς M = .ok (.int m) M1) (hb : m ≤ 63) : evI P (.range1 e) ς M = .ok (rangeA m) M1 := by
  have h1 : -(2 ^ 62) ≤ (m : Int) ∧ (m : Int) < 2 ^ 62 := by
    have : (0 : Int) ≤ m := Int.natCast_nonneg m
    exact ⟨by omega, by omega⟩
  exact range_ok0 P e ς M M1 m h h1
theorem law_it (k : Nat) (ns : List Int) (M1 : Mem) (hl : ns.length ≤ 63) : ∃ m : Nat, m ≤ 63 ∧ evI (PP k) (.range1 (.blt false .max [(.con (.int 1)), (.blt false .min [(.con (.int 12)), (.blt false .len [(.var 0)])])])) (st1 (scriptA ns)) M1 = .ok (rangeA m) M1 := by
  obtain ⟨m, hm, e⟩ := law_m ns.length hl
  have e1 := law_max k ns M1
  rw [e] at e1
  exact ⟨m, hm, range_ok (PP k) maxE _ _ _ m e1 hm⟩
theorem r_law (k : Nat) (ns : List Int) (hl : ns.length ≤ 63) : ∃ M, R (k + 7) (Str.ofString "law") [scriptA ns] [] = .ok (.bl true) M := by
  obtain ⟨M1, e1⟩ := r_fixed (k + 5)
  obtain ⟨m, hm, it⟩ := law_it k ns M1 hl
  obtain ⟨ς', M', e3, i3⟩ := forL_all (f := turnF (PP k) (.name 3) [.asg 4 (.call (Str.ofString "_law_stream") [(.var 0), (.var 3)]), .asg 5 (.call (Str.ofString "_law_names") [(.var 4)]), forT]) (Iv1 (scriptA ns)) (rangeA m) (fun v hv ς M h => by
    simp only [rangeA, List.mem_map, List.mem_range] at hv
    obtain ⟨j, hj, rfl⟩ := hv
    exact stepK k ns (j : Int) (by omega) (by omega) ς M h) (st1 (scriptA ns)) M1 ⟨none, none, none, none, none, none, rfl⟩
  have a2 : evS (PP k) forK (st1 (scriptA ns)) M1 = .ok (.nxt, ς') M' := by
    rw [forK, evS_for, it, Out.bind_ok, e3]
  have ar : evS (PP k) (.ret (.con (.bool true))) ς' M' = .ok (.ret (.bl true), ς') M' := by simp only [evS, evE, cA, Out.bind_ok]
  have b : evSs (PP k) f_law.body (st0 (scriptA ns)) [] = .ok (.ret (.bl true), ς') M' := by
    rw [law_body]
    simp only [evSs, law_a0 k (scriptA ns) M1 e1, law_a1 k (scriptA ns) M1, a2, ar, Out.bind_ok]
  refine ⟨M', ?_⟩
  have hlen : [scriptA ns].length = f_law.ps.length := rfl
  have st : startA f_law.ns.length [scriptA ns] = st0 (scriptA ns) := rfl
  rw [run_def lk_f_law, if_pos hlen, st, b]
  rfl
theorem run : ∀ ns : List Int, ns.length ≤ 63 → ∃ M, runF wf tbl (fun x => gl.lookup x) (dep + 1) (Str.ofString "law") [scriptA ns] [] = .ok (.bl true) M := fun ns h => r_law 24 ns h
end K01

open PySem PySem.W PyProof.Rows in
set_option maxRecDepth 100000 in
set_option maxHeartbeats 0 in
theorem PySem.Challenge.cw_factsandfar_k01_concepts_and_axioms_holds : PySem.Challenge.rw_factsandfar_k01_concepts_and_axioms.Holds := by
  w_on; o_law; k_head; (case hw => w_witness2)
  k_fill
  refine K01.walk (l := PySem.Challenge.rw_factsandfar_k01_concepts_and_axioms) rfl rfl rfl (fun w h Y => PySem.W.kIn_of Y) ?F K01.run
  case F =>
    intro w mg h KX G
    refine' K01.all_mk KX G ?mp_a0 ?mp_l0 ?mp_c0 ?mp_k0 ?mp_a1 ?mp_l1 ?mp_c1 ?mp_k1 ?mp_a2 ?mp_l2 ?mp_c2 ?mp_k2 ?mp_a3 ?mp_l3 ?mp_c3 ?mp_k3 ?mp_a4 ?mp_l4 ?mp_c4 ?mp_k4 ?mp_a5 ?mp_l5 ?mp_c5 ?mp_k5 ?mp_a6 ?mp_l6 ?mp_c6 ?mp_k6 ?mp_a7 ?mp_l7 ?mp_c7 ?mp_k7 ?mp_a8 ?mp_l8 ?mp_c8 ?mp_k8 ?mp_a9 ?mp_l9 ?mp_c9 ?mp_k9 ?mp_a10 ?mp_l10 ?mp_c10 ?mp_k10 ?mp_a11 ?mp_l11 ?mp_c11 ?mp_k11 ?mp_a12 ?mp_l12 ?mp_c12 ?mp_k12 ?mp_a13 ?mp_l13 ?mp_c13 ?mp_k13 ?mp_a14 ?mp_l14 ?mp_c14 ?mp_k14 ?mp_a15 ?mp_l15 ?mp_c15 ?mp_k15 ?mp_a16 ?mp_l16 ?mp_c16 ?mp_k16 ?mp_a17 ?mp_l17 ?mp_c17 ?mp_k17 ?mp_z0 ?mp_z1 ?mp_z2 ?mp_z3 ?mp_z4 ?mp_z5 ?mp_z6 ?mp_z7 ?mp_z8 ?mp_z9 ?mp_z10 ?mp_g0 ?mp_gl0 ?mp_gz0 ?mp_gv0 ?mp_g1 ?mp_g2 ?mp_g3 ?mp_gl3 ?mp_gz3 ?mp_gv3 ?mp_g4 ?mp_gl4 ?mp_gz4 ?mp_gv4
    (case mp_a0 => k_is)
    (case mp_l0 => k_is)
    (case mp_c0 => k_is)
    (case mp_k0 => k_is)
    (case mp_a1 => k_is)
    (case mp_l1 => k_is)
    (case mp_c1 => k_is)
    (case mp_k1 => k_is)
    (case mp_a2 => k_is)
    (case mp_l2 => k_is)
    (case mp_c2 => k_is)
    (case mp_k2 => k_is)
    (case mp_a3 => k_is)
    (case mp_l3 => k_is)
    (case mp_c3 => k_is)
    (case mp_k3 => k_is)
    (case mp_a4 => k_is)
    (case mp_l4 => k_is)
    (case mp_c4 => k_is)
    (case mp_k4 => k_is)
    (case mp_a5 => k_is)
    (case mp_l5 => k_is)
    (case mp_c5 => k_is)
    (case mp_k5 => k_is)
    (case mp_a6 => k_is)
    (case mp_l6 => k_is)
    (case mp_c6 => k_is)
    (case mp_k6 => k_is)
    (case mp_a7 => k_is)
    (case mp_l7 => k_is)
    (case mp_c7 => k_is)
    (case mp_k7 => k_is)
    (case mp_a8 => k_is)
    (case mp_l8 => k_is)
    (case mp_c8 => k_is)
    (case mp_k8 => k_is)
    (case mp_a9 => k_is)
    (case mp_l9 => k_is)
    (case mp_c9 => k_is)
    (case mp_k9 => k_is)
    (case mp_a10 => k_is)
    (case mp_l10 => k_is)
    (case mp_c10 => k_is)
    (case mp_k10 => k_is)
    (case mp_a11 => k_is)
    (case mp_l11 => k_is)
    (case mp_c11 => k_is)
    (case mp_k11 => k_is)
    (case mp_a12 => k_is)
    (case mp_l12 => k_is)
    (case mp_c12 => k_is)
    (case mp_k12 => k_is)
    (case mp_a13 => k_is)
    (case mp_l13 => k_is)
    (case mp_c13 => k_is)
    (case mp_k13 => k_is)
    (case mp_a14 => k_is)
    (case mp_l14 => k_is)
    (case mp_c14 => k_is)
    (case mp_k14 => k_is)
    (case mp_a15 => k_is)
    (case mp_l15 => k_is)
    (case mp_c15 => k_is)
    (case mp_k15 => k_is)
    (case mp_a16 => k_is)
    (case mp_l16 => k_is)
    (case mp_c16 => k_is)
    (case mp_k16 => k_is)
    (case mp_a17 => k_is)
    (case mp_l17 => k_is)
    (case mp_c17 => k_is)
    (case mp_k17 => k_is)
    (case mp_z0 => k_is)
    (case mp_z1 => k_is)
    (case mp_z2 => k_is)
    (case mp_z3 => k_is)
    (case mp_z4 => k_is)
    (case mp_z5 => k_is)
    (case mp_z6 => k_is)
    (case mp_z7 => k_is)
    (case mp_z8 => k_is)
    (case mp_z9 => k_is)
    (case mp_z10 => k_is)
    (case mp_g0 => k_is)
    (case mp_gl0 => k_is)
    (case mp_gz0 => decide)
    (case mp_gv0 => repeat (first | exact .nil | refine .cons ⟨_, rfl⟩ ?_))
    (case mp_g1 => k_is)
    (case mp_g2 => k_is)
    (case mp_g3 => k_is)
    (case mp_gl3 => k_is)
    (case mp_gz3 => decide)
    (case mp_gv3 => repeat (first | exact .nil | refine .cons ⟨_, rfl⟩ ?_))
    (case mp_g4 => k_is)
    (case mp_gl4 => k_is)
    (case mp_gz4 => decide)
    (case mp_gv4 => repeat (first | exact .nil | refine .cons ⟨_, rfl⟩ ?_))

